/- Walks (SC). Written by program. -/
import Derived.Test.YtjhgihgggofocaaT
import Derived.Test.YtjhgihgggofocaaSF
import Derived.Test.YtjhgihgggofocaaSB
namespace Go.Proofs.Ytjhgihgggofocaa
open Go.RowKit
set_option maxRecDepth 100000 in
set_option maxHeartbeats 1000000 in
theorem subtract_ret (w0 : World) (g r i t : Nat) (M : Mx) (w : World) (hx0 : Ex w0 w) (hg0 : w0.heap.size ≤ g) (hb : Blk w g 64 (mc M)) (hel : EM M) (hr : r < 4) (hi : i < 4) (ht : t < 64) :
    Ret Try.prog 57 [.pointer (some ⟨g, 0, none⟩), .int .i64 (r : Int), .int .i64 (i : Int), .int .u8 (t : Int)] w (fun v w' => v = .tuple #[] ∧ Blk w' g 64 (mc (subTo M r i t 5)) ∧ Ex w0 w') := by
  have hB0 : Ex w w := Ex.rfl_ _
  refine Ret.of Try.func57 rfl Try.ntmps57 rfl ?_
  refine CW.seq ?_
  refine CW.region ?_
  refine RG.vl rfl rfl rfl (Ev.move rfl rfl) ?_
  refine RG.done ?_
  refine QW.then_ ?_
  refine CW.block ?_
  refine CW.loop1 [(0, _), (1, _), (2, _), (3, _)] ⟨rfl, rfl, rfl, rfl, trivial⟩ (fun (k : Nat) => [(11, .int .i64 (k : Int))]) (fun k w' => (k ≤ 5 ∧ Blk w' g 64 (mc (subTo M r i t k))) ∧ Ex w0 w') (fun k => 5 - k) (0) ⟨rfl, trivial⟩ ⟨⟨by omega, by rw [subTo_zero]; exact hb⟩, hx0⟩ ?_
  rintro k wl1 ⟨⟨hk, hbk⟩, hxwl1⟩
  refine CW.sub (S' := [(11, _), (0, _), (1, _), (2, _), (3, _)]) ⟨rfl, rfl, rfl, rfl, rfl, trivial⟩ ?_
  refine CW.seq ?_
  refine CW.region ?_
  refine RG.vl rfl rfl rfl (Ev.lss rfl rfl rfl) ?_
  refine RG.done ?_
  refine QW.then_ ?_
  refine CW.seq ?_
  refine CW.condP rfl (fun hc2 => ?_) (fun hc2 => ?_)
  · refine CW.skip ?_
    refine QW.then_ ?_
    refine CW.seq ?_
    refine CW.block ?_
    refine CW.seq ?_
    refine CW.region ?_
    refine RG.vl rfl rfl rfl (Ev.move rfl rfl) ?_
    refine RG.vl rfl rfl rfl (Ev.assign rfl rfl) ?_
    refine RG.done ?_
    refine QW.then_ ?_
    refine CW.seq ?_
    have e1 : subTo M r i t k i k = M i k := by unfold subTo; rw [if_neg (by omega)]
    have e2 : subTo M r i t k r k = M r k := by unfold subTo; rw [if_neg (by omega)]
    have h1 := hel i k hi (by omega)
    have h2 := hel r k hr (by omega)
    have h3 := gm_lt t (M i k)
    have h4 := xor_lt64 _ _ h2 h3
    refine CW.region ?_
    refine RG.vl rfl rfl rfl (Ev.move rfl rfl) ?_
    refine RG.vl rfl rfl rfl (Ev.move rfl rfl) ?_
    refine RG.vl rfl rfl rfl (Ev.move rfl rfl) ?_
    refine RG.vl rfl rfl rfl (Ev.move rfl rfl) ?_
    refine RG.vl rfl rfl rfl (Ev.nilC rfl rfl) ?_
    refine RG.vl rfl rfl rfl (Ev.idxA rfl rfl rfl Try.underlying64 sz_62 (by omega)) ?_
    refine RG.vl rfl rfl rfl (Ev.idxA rfl rfl rfl Try.underlying62 sz_5 (by omega)) ?_
    refine RG.vl rfl rfl rfl (Ev.ldAA rfl rfl Try.underlying5 rfl (hbk.cells) ((show (mc _)[i * 5 + k * 1]? = some (.int .u8 (M i k : Int)) by rw [mc_at _ (by omega) (by omega), e1]))) ?_
    refine RG.call rfl rfl rfl rfl rfl rfl rfl en_31 (Mul_el _ _ _ ht h1) ?_
    rintro _ w3 ⟨rfl, hx3⟩
    replace hxwl1 := Ex.tr hxwl1 hx3
    have hE4 := hx3
    refine RG.vl rfl rfl rfl (Ev.move rfl rfl) ?_
    refine RG.vl rfl rfl rfl (Ev.extract rfl rfl rfl) ?_
    refine RG.vl rfl rfl rfl (Ev.extract rfl rfl rfl) ?_
    refine RG.vl rfl rfl rfl (Ev.assign rfl rfl) ?_
    refine RG.vl rfl rfl rfl (Ev.assign rfl rfl) ?_
    refine RG.done ?_
    refine QW.sub (S' := [(0, _), (1, _), (2, _), (3, _), (8, _), (9, _), (11, _)]) ⟨rfl, rfl, rfl, rfl, rfl, rfl, rfl, trivial⟩ ?_
    refine QW.then_ ?_
    refine CW.draw [12] (.ex) 13 rfl mixed (fun wd5 hxwd5 => ?_)
    replace hxwl1 := Ex.tr hxwl1 hxwd5
    replace hE4 := Ex.tr hE4 hxwd5
    refine AG.takeW 0 rfl (by kernel_rfl) (by kernel_rfl) rfl rfl rfl (fun _ => Ev.move rfl rfl) ?_
    refine AG.takeW 1 rfl (by kernel_rfl) (by kernel_rfl) rfl rfl rfl (fun _ => Ev.move rfl rfl) ?_
    refine AG.takeW 2 rfl (by kernel_rfl) (by kernel_rfl) rfl rfl rfl (fun _ => Ev.move rfl rfl) ?_
    refine AG.takeW 3 rfl (by kernel_rfl) (by kernel_rfl) rfl rfl rfl (fun _ => Ev.nilC rfl rfl) ?_
    refine AG.takeW 4 rfl (by kernel_rfl) (by kernel_rfl) rfl rfl rfl (fun _ => Ev.idxA rfl rfl rfl Try.underlying64 sz_62 (by omega)) ?_
    refine AG.takeW 5 rfl (by kernel_rfl) (by kernel_rfl) rfl rfl rfl (fun _ => Ev.idxA rfl rfl rfl Try.underlying62 sz_5 (by omega)) ?_
    refine AG.take 6 rfl (by kernel_rfl) (by kernel_rfl) rfl rfl rfl (fun wq hq => Ev.ldAA rfl rfl Try.underlying5 rfl (((hbk.ext hE4).ext hq).cells) ((show (mc _)[r * 5 + k * 1]? = some (.int .u8 (M r k : Int)) by rw [mc_at _ (by omega) (by omega), e2]))) ?_
    refine AG.takeW 7 rfl (by kernel_rfl) (by kernel_rfl) rfl rfl rfl (fun _ => Ev.move rfl rfl) ?_
    refine AG.takeW 8 rfl (by kernel_rfl) (by kernel_rfl) rfl rfl rfl (fun _ => Ev.xor8 rfl rfl rfl (by omega) (by omega)) ?_
    refine AG.takeW 9 rfl (by kernel_rfl) (by kernel_rfl) rfl rfl rfl (fun _ => Ev.nilC rfl rfl) ?_
    refine AG.takeW 10 rfl (by kernel_rfl) (by kernel_rfl) rfl rfl rfl (fun _ => Ev.idxA rfl rfl rfl Try.underlying64 sz_62 (by omega)) ?_
    refine AG.takeW 11 rfl (by kernel_rfl) (by kernel_rfl) rfl rfl rfl (fun _ => Ev.idxA rfl rfl rfl Try.underlying62 sz_5 (by omega)) ?_
    refine AG.only 12 rfl (by kernel_rfl) ?_
    refine RG.st2 (g := g) rfl rfl rfl rfl rfl sz_5 rfl (hbk.ext hE4) (by rw [mc_len, Nat.blt_eq]; omega) (fun ws7 hwws7 hbws7 => ?_)
    replace hxwl1 := Wr.below hxwl1 hwws7 hg0
    rw [mc_set _ _ (by omega), subTo_more] at hbws7
    refine RG.done ?_
    refine QW.an (fun h => by simp at h) ?_
    refine AG.done (by kernel_rfl) ?_
    refine QW.blockN ?_
    refine QW.then_ ?_
    refine CW.region ?_
    refine RG.vl rfl rfl rfl (Ev.addI rfl rfl rfl (by omega)) ?_
    refine RG.vl rfl rfl rfl (Ev.move rfl rfl) ?_
    refine RG.done ?_
    refine QW.sub (S' := [(0, _), (1, _), (2, _), (3, _), (11, _)]) ⟨rfl, rfl, rfl, rfl, rfl, trivial⟩ ?_
    refine QW.round1 (k + 1) ⟨rfl, trivial⟩ ⟨rfl, rfl, rfl, rfl, trivial⟩ ⟨⟨by omega, hbws7⟩, hxwl1⟩ (by omega)
  · refine CW.exit ?_
    refine QW.thenExit ?_
    refine QW.thenExit ?_
    refine QW.blockHit ?_
    refine QW.end0 rfl ?_
    obtain rfl : k = 5 := by omega
    exact ⟨rfl, hbk, hxwl1⟩

set_option maxRecDepth 100000 in
set_option maxHeartbeats 2000000 in
theorem pivot_ret (w0 : World) (g i : Nat) (M : Mx) (w : World) (hx0 : Ex w0 w) (hg0 : w0.heap.size ≤ g) (hb : Blk w g 64 (mc M)) (hel : EM M) (hi : i < 4) :
    Ret Try.prog 56 [.pointer (some ⟨g, 0, none⟩), .int .i64 (i : Int)] w (fun v w' => ∃ b M', v = .bool b ∧ Blk w' g 64 (mc M') ∧ (b = true → ∃ row, i ≤ row ∧ row < 4 ∧ M row i ≠ 0 ∧ M' = pivM M i row) ∧ (b = false → M' = M ∧ ∀ r, i ≤ r → r < 4 → M r i = 0) ∧ Ex w0 w') := by
  have hB0 : Ex w w := Ex.rfl_ _
  refine Ret.of Try.func56 rfl Try.ntmps56 rfl ?_
  refine CW.seq ?_
  refine CW.region ?_
  refine RG.vl rfl rfl rfl (Ev.assign rfl rfl) ?_
  refine RG.done ?_
  refine QW.then_ ?_
  refine CW.seq ?_
  refine CW.seq ?_
  refine CW.region ?_
  refine RG.vl rfl rfl rfl (Ev.move rfl rfl) ?_
  refine RG.vl rfl rfl rfl (Ev.assign rfl rfl) ?_
  refine RG.done ?_
  refine QW.then_ ?_
  refine CW.block ?_
  refine CW.loop1 [(0, _), (1, _)] ⟨rfl, rfl, trivial⟩ (fun (row : Nat) => [(5, .int .i64 (row : Int))]) (fun row w' => (i ≤ row ∧ row ≤ 4 ∧ (∀ r, i ≤ r → r < row → M r i = 0) ∧ Blk w' g 64 (mc M)) ∧ Ex w0 w') (fun row => 4 - row) (i) ⟨rfl, trivial⟩ ⟨⟨Nat.le_refl _, by omega, fun r h1 h2 => absurd h1 (by omega), hb⟩, hx0⟩ ?_
  rintro row wl1 ⟨⟨hrow, hrow4, hz, hbk⟩, hxwl1⟩
  refine CW.sub (S' := [(5, _), (0, _), (1, _)]) ⟨rfl, rfl, rfl, trivial⟩ ?_
  refine CW.seq ?_
  refine CW.seq ?_
  refine CW.region ?_
  refine RG.vl rfl rfl rfl (Ev.move rfl rfl) ?_
  refine RG.vl rfl rfl rfl (Ev.lss rfl rfl rfl) ?_
  refine RG.done ?_
  refine QW.then_ ?_
  refine CW.condP rfl (fun hc2 => ?_) (fun hc2 => ?_)
  · refine CW.skip ?_
    refine QW.then_ ?_
    refine CW.seq ?_
    refine CW.block ?_
    refine CW.seq ?_
    refine CW.seq ?_
    refine CW.region ?_
    refine RG.vl rfl rfl rfl (Ev.move rfl rfl) ?_
    refine RG.vl rfl rfl rfl (Ev.move rfl rfl) ?_
    refine RG.vl rfl rfl rfl (Ev.move rfl rfl) ?_
    refine RG.vl rfl rfl rfl (Ev.nilC rfl rfl) ?_
    refine RG.vl rfl rfl rfl (Ev.idxA rfl rfl rfl Try.underlying64 sz_62 (by omega)) ?_
    refine RG.vl rfl rfl rfl (Ev.idxA rfl rfl rfl Try.underlying62 sz_5 (by omega)) ?_
    refine RG.vl rfl rfl rfl (Ev.ldAA rfl rfl Try.underlying5 rfl (hbk.cells) ((show (mc _)[row * 5 + i * 1]? = some (.int .u8 (M row i : Int)) by rw [mc_at _ (by omega) (by omega)]))) ?_
    refine RG.vl rfl rfl rfl (Ev.eqI rfl rfl rfl) ?_
    refine RG.done ?_
    refine QW.then_ ?_
    refine CW.condP rfl (fun hc3 => ?_) (fun hc3 => ?_)
    · refine CW.exit ?_
      refine QW.thenExit ?_
      refine QW.blockHit ?_
      refine QW.then_ ?_
      refine CW.region ?_
      refine RG.vl rfl rfl rfl (Ev.move rfl rfl) ?_
      refine RG.vl rfl rfl rfl (Ev.addI rfl rfl rfl (by omega)) ?_
      refine RG.vl rfl rfl rfl (Ev.assign rfl rfl) ?_
      refine RG.done ?_
      refine QW.round1 (row + 1) ⟨rfl, trivial⟩ ⟨rfl, rfl, trivial⟩ ⟨⟨by omega, by omega, fun r h1 h2 => by rcases Nat.lt_or_ge r row with h | h; exact hz r h1 h; obtain rfl : r = row := (by omega); omega, hbk⟩, hxwl1⟩ (by omega)
    · refine CW.skip ?_
      refine QW.then_ ?_
      refine CW.seq ?_
      have h0 : M row i ≠ 0 := by omega
      have hr4 : row < 4 := by omega
      refine CW.draw [16, 19] (.ex) 20 rfl mixed (fun wd4 hxwd4 => ?_)
      replace hxwl1 := Ex.tr hxwl1 hxwd4
      have hE5 := hxwd4
      refine AG.takeW 0 rfl (by kernel_rfl) (by kernel_rfl) rfl rfl rfl (fun _ => Ev.move rfl rfl) ?_
      refine AG.takeW 1 rfl (by kernel_rfl) (by kernel_rfl) rfl rfl rfl (fun _ => Ev.move rfl rfl) ?_
      refine AG.takeW 2 rfl (by kernel_rfl) (by kernel_rfl) rfl rfl rfl (fun _ => Ev.move rfl rfl) ?_
      refine AG.takeW 3 rfl (by kernel_rfl) (by kernel_rfl) rfl rfl rfl (fun _ => Ev.move rfl rfl) ?_
      refine AG.takeW 4 rfl (by kernel_rfl) (by kernel_rfl) rfl rfl rfl (fun _ => Ev.move rfl rfl) ?_
      refine AG.takeW 5 rfl (by kernel_rfl) (by kernel_rfl) rfl rfl rfl (fun _ => Ev.move rfl rfl) ?_
      refine AG.takeW 6 rfl (by kernel_rfl) (by kernel_rfl) rfl rfl rfl (fun _ => Ev.nilC rfl rfl) ?_
      refine AG.takeW 7 rfl (by kernel_rfl) (by kernel_rfl) rfl rfl rfl (fun _ => Ev.idxA rfl rfl rfl Try.underlying64 sz_62 (by omega)) ?_
      refine AG.take 8 rfl (by kernel_rfl) (by kernel_rfl) rfl rfl rfl (fun wq hq => Ev.ldRow (r := row) rfl rfl Try.underlying62 rfl sz_62 ((hbk.ext hE5).ext hq) (by omega)) ?_
      refine AG.takeW 9 rfl (by kernel_rfl) (by kernel_rfl) rfl rfl rfl (fun _ => Ev.move rfl rfl) ?_
      refine AG.takeW 10 rfl (by kernel_rfl) (by kernel_rfl) rfl rfl rfl (fun _ => Ev.move rfl rfl) ?_
      refine AG.takeW 11 rfl (by kernel_rfl) (by kernel_rfl) rfl rfl rfl (fun _ => Ev.nilC rfl rfl) ?_
      refine AG.takeW 12 rfl (by kernel_rfl) (by kernel_rfl) rfl rfl rfl (fun _ => Ev.idxA rfl rfl rfl Try.underlying64 sz_62 (by omega)) ?_
      refine AG.take 13 rfl (by kernel_rfl) (by kernel_rfl) rfl rfl rfl (fun wq hq => Ev.ldRow (r := i) rfl rfl Try.underlying62 rfl sz_62 ((hbk.ext hE5).ext hq) (by omega)) ?_
      refine AG.takeW 14 rfl (by kernel_rfl) (by kernel_rfl) rfl rfl rfl (fun _ => Ev.nilC rfl rfl) ?_
      refine AG.takeW 15 rfl (by kernel_rfl) (by kernel_rfl) rfl rfl rfl (fun _ => Ev.idxA rfl rfl rfl Try.underlying64 sz_62 (by omega)) ?_
      refine AG.takeW 17 rfl (by kernel_rfl) (by kernel_rfl) rfl rfl rfl (fun _ => Ev.nilC rfl rfl) ?_
      refine AG.only 16 rfl (by kernel_rfl) ?_
      refine RG.stRow (r := i) (M row) rfl rfl rfl rfl rfl sz_62 (hbk.ext hE5) (by omega) (fun ws7 hwws7 hbws7 => ?_)
      replace hxwl1 := Wr.below hxwl1 hwws7 hg0
      refine RG.done ?_
      refine QW.an (fun h => by simp at h) ?_
      refine AG.takeW 18 rfl (by kernel_rfl) (by kernel_rfl) rfl rfl rfl (fun _ => Ev.idxA rfl rfl rfl Try.underlying64 sz_62 (by omega)) ?_
      refine AG.only 19 rfl (by kernel_rfl) ?_
      refine RG.stRow (r := row) (M i) rfl rfl rfl rfl rfl sz_62 hbws7 (by omega) (fun ws9 hwws9 hbws9 => ?_)
      replace hxwl1 := Wr.below hxwl1 hwws9 hg0
      replace hbws9 : Blk ws9 g 64 (mc (swp M i row)) := hbws9
      refine RG.done ?_
      refine QW.an (fun h => by simp at h) ?_
      refine AG.done (by kernel_rfl) ?_
      refine QW.sub (S' := [(0, _), (1, _), (5, _)]) ⟨rfl, rfl, rfl, trivial⟩ ?_
      refine QW.then_ ?_
      refine CW.seq ?_
      have hM1 := hel.swp hi hr4
      have es : swp M i row i i = M row i := swp_i M i row i
      have h64 := hel row i hr4 (by omega)
      have hgi := (gi_lt (M row i)).2
      refine CW.region ?_
      refine RG.vl rfl rfl rfl (Ev.move rfl rfl) ?_
      refine RG.vl rfl rfl rfl (Ev.move rfl rfl) ?_
      refine RG.vl rfl rfl rfl (Ev.move rfl rfl) ?_
      refine RG.vl rfl rfl rfl (Ev.nilC rfl rfl) ?_
      refine RG.vl rfl rfl rfl (Ev.idxA rfl rfl rfl Try.underlying64 sz_62 (by omega)) ?_
      refine RG.vl rfl rfl rfl (Ev.idxA rfl rfl rfl Try.underlying62 sz_5 (by omega)) ?_
      refine RG.vl rfl rfl rfl (Ev.ldAA rfl rfl Try.underlying5 rfl (hbws9.cells) ((show (mc _)[i * 5 + i * 1]? = some (.int .u8 (M row i : Int)) by rw [mc_at _ (by omega) (by omega), es]))) ?_
      refine RG.call rfl rfl rfl rfl rfl rfl rfl en_73 (Inv_el _ _ h0 h64) ?_
      rintro _ w10 ⟨rfl, hx10⟩
      replace hxwl1 := Ex.tr hxwl1 hx10
      have hE11 := hx10
      refine RG.vl rfl rfl rfl (Ev.move rfl rfl) ?_
      refine RG.vl rfl rfl rfl (Ev.extract rfl rfl rfl) ?_
      refine RG.vl rfl rfl rfl (Ev.extract rfl rfl rfl) ?_
      refine RG.vl rfl rfl rfl (Ev.assign rfl rfl) ?_
      refine RG.vl rfl rfl rfl (Ev.assign rfl rfl) ?_
      refine RG.done ?_
      refine QW.then_ ?_
      refine CW.seq ?_
      refine CW.seq ?_
      refine CW.region ?_
      refine RG.vl rfl rfl rfl (Ev.move rfl rfl) ?_
      refine RG.done ?_
      refine QW.sub (S' := [(0, _), (1, _), (5, _), (6, _), (51, _)]) ⟨rfl, rfl, rfl, rfl, rfl, trivial⟩ ?_
      refine QW.then_ ?_
      refine CW.block ?_
      refine CW.loop1 [(0, _), (1, _), (5, _), (6, _)] ⟨rfl, rfl, rfl, rfl, trivial⟩ (fun (k : Nat) => [(51, .int .i64 (k : Int))]) (fun k w' => (k ≤ 5 ∧ Blk w' g 64 (mc (scTo (swp M i row) i (gi (M row i)) k))) ∧ Ex w0 w') (fun k => 5 - k) (0) ⟨rfl, trivial⟩ ⟨⟨by omega, by rw [scTo_zero]; exact (hbws9.ext hE11)⟩, hxwl1⟩ ?_
      rintro k wl12 ⟨⟨hk, hbk⟩, hxwl12⟩
      refine CW.sub (S' := [(51, _), (0, _), (1, _), (5, _), (6, _)]) ⟨rfl, rfl, rfl, rfl, rfl, trivial⟩ ?_
      refine CW.seq ?_
      refine CW.region ?_
      refine RG.vl rfl rfl rfl (Ev.lss rfl rfl rfl) ?_
      refine RG.done ?_
      refine QW.then_ ?_
      refine CW.seq ?_
      refine CW.condP rfl (fun hc13 => ?_) (fun hc13 => ?_)
      · refine CW.skip ?_
        refine QW.then_ ?_
        refine CW.seq ?_
        refine CW.block ?_
        refine CW.seq ?_
        refine CW.region ?_
        refine RG.vl rfl rfl rfl (Ev.move rfl rfl) ?_
        refine RG.vl rfl rfl rfl (Ev.assign rfl rfl) ?_
        refine RG.done ?_
        refine QW.then_ ?_
        have e1 : scTo (swp M i row) i (gi (M row i)) k i k = swp M i row i k := by unfold scTo; rw [if_neg (by omega)]
        have h1 := hM1 i k hi (by omega)
        have h2 := gm_lt (swp M i row i k) (gi (M row i))
        refine CW.draw [18] (.ex) 19 rfl mixed (fun wd14 hxwd14 => ?_)
        replace hxwl12 := Ex.tr hxwl12 hxwd14
        have hE15 := hxwd14
        refine AG.takeW 0 rfl (by kernel_rfl) (by kernel_rfl) rfl rfl rfl (fun _ => Ev.move rfl rfl) ?_
        refine AG.takeW 1 rfl (by kernel_rfl) (by kernel_rfl) rfl rfl rfl (fun _ => Ev.move rfl rfl) ?_
        refine AG.takeW 2 rfl (by kernel_rfl) (by kernel_rfl) rfl rfl rfl (fun _ => Ev.move rfl rfl) ?_
        refine AG.takeW 3 rfl (by kernel_rfl) (by kernel_rfl) rfl rfl rfl (fun _ => Ev.move rfl rfl) ?_
        refine AG.takeW 4 rfl (by kernel_rfl) (by kernel_rfl) rfl rfl rfl (fun _ => Ev.move rfl rfl) ?_
        refine AG.takeW 5 rfl (by kernel_rfl) (by kernel_rfl) rfl rfl rfl (fun _ => Ev.move rfl rfl) ?_
        refine AG.takeW 6 rfl (by kernel_rfl) (by kernel_rfl) rfl rfl rfl (fun _ => Ev.nilC rfl rfl) ?_
        refine AG.takeW 7 rfl (by kernel_rfl) (by kernel_rfl) rfl rfl rfl (fun _ => Ev.idxA rfl rfl rfl Try.underlying64 sz_62 (by omega)) ?_
        refine AG.takeW 8 rfl (by kernel_rfl) (by kernel_rfl) rfl rfl rfl (fun _ => Ev.idxA rfl rfl rfl Try.underlying62 sz_5 (by omega)) ?_
        refine AG.take 9 rfl (by kernel_rfl) (by kernel_rfl) rfl rfl rfl (fun wq hq => Ev.ldAA rfl rfl Try.underlying5 rfl (((hbk.ext hE15).ext hq).cells) ((show (mc _)[i * 5 + k * 1]? = some (.int .u8 (swp M i row i k : Int)) by rw [mc_at _ (by omega) (by omega), e1]))) ?_
        refine AG.takeW 10 rfl (by kernel_rfl) (by kernel_rfl) rfl rfl rfl (fun _ => Ev.move rfl rfl) ?_
        refine AG.takeW 15 rfl (by kernel_rfl) (by kernel_rfl) rfl rfl rfl (fun _ => Ev.nilC rfl rfl) ?_
        refine AG.takeW 16 rfl (by kernel_rfl) (by kernel_rfl) rfl rfl rfl (fun _ => Ev.idxA rfl rfl rfl Try.underlying64 sz_62 (by omega)) ?_
        refine AG.only 11 rfl (by kernel_rfl) ?_
        refine RG.call rfl rfl rfl rfl rfl rfl rfl en_31 (Mul_el _ _ _ h1 hgi) ?_
        rintro _ w17 ⟨rfl, hx17⟩
        replace hxwl12 := Ex.tr hxwl12 hx17
        replace hE15 := Ex.tr hE15 hx17
        have hE18 := hx17
        refine RG.done ?_
        refine QW.an (fun _ => hE18) ?_
        refine AG.takeW 12 rfl (by kernel_rfl) (by kernel_rfl) rfl rfl rfl (fun _ => Ev.move rfl rfl) ?_
        refine AG.takeW 13 rfl (by kernel_rfl) (by kernel_rfl) rfl rfl rfl (fun _ => Ev.extract rfl rfl rfl) ?_
        refine AG.takeW 14 rfl (by kernel_rfl) (by kernel_rfl) rfl rfl rfl (fun _ => Ev.extract rfl rfl rfl) ?_
        refine AG.takeW 17 rfl (by kernel_rfl) (by kernel_rfl) rfl rfl rfl (fun _ => Ev.idxA rfl rfl rfl Try.underlying62 sz_5 (by omega)) ?_
        refine AG.only 18 rfl (by kernel_rfl) ?_
        refine RG.st2 (g := g) rfl rfl rfl rfl rfl sz_5 rfl (hbk.ext hE15) (by rw [mc_len, Nat.blt_eq]; omega) (fun ws20 hwws20 hbws20 => ?_)
        replace hxwl12 := Wr.below hxwl12 hwws20 hg0
        rw [mc_set _ _ (by omega), scTo_more] at hbws20
        refine RG.done ?_
        refine QW.an (fun h => by simp at h) ?_
        refine AG.done (by kernel_rfl) ?_
        refine QW.sub (S' := [(0, _), (1, _), (5, _), (6, _), (51, _)]) ⟨rfl, rfl, rfl, rfl, rfl, trivial⟩ ?_
        refine QW.blockN ?_
        refine QW.then_ ?_
        refine CW.region ?_
        refine RG.vl rfl rfl rfl (Ev.addI rfl rfl rfl (by omega)) ?_
        refine RG.vl rfl rfl rfl (Ev.move rfl rfl) ?_
        refine RG.done ?_
        refine QW.round1 (k + 1) ⟨rfl, trivial⟩ ⟨rfl, rfl, rfl, rfl, trivial⟩ ⟨⟨by omega, hbws20⟩, hxwl12⟩ (by omega)
      · refine CW.exit ?_
        refine QW.thenExit ?_
        refine QW.thenExit ?_
        refine QW.blockHit ?_
        refine QW.then_ ?_
        refine CW.seq ?_
        refine CW.region ?_
        refine RG.vl rfl rfl rfl (Ev.assign rfl rfl) ?_
        refine RG.done ?_
        refine QW.then_ ?_
        refine CW.ret ?_
        refine QW.blockR ?_
        refine QW.thenRet ?_
        refine QW.thenRet ?_
        refine QW.blockR ?_
        refine QW.thenRet ?_
        refine QW.ret1 rfl rfl ?_
        obtain rfl : k = 5 := by omega
        exact ⟨true, _, rfl, hbk, fun _ => ⟨row, hrow, by omega, h0, rfl⟩, (fun h => by cases h), hxwl12⟩
  · refine CW.exit ?_
    refine QW.thenExit ?_
    refine QW.thenExit ?_
    refine QW.blockHit ?_
    refine QW.then_ ?_
    refine CW.seq ?_
    refine CW.region ?_
    refine RG.vl rfl rfl rfl (Ev.assign rfl rfl) ?_
    refine RG.done ?_
    refine QW.then_ ?_
    refine CW.ret ?_
    refine QW.ret1 rfl rfl ?_
    obtain rfl : row = 4 := by omega
    exact ⟨false, M, rfl, hbk, (fun h => by cases h), fun _ => ⟨rfl, fun r h1 h2 => hz r h1 h2⟩, hxwl1⟩

set_option maxRecDepth 100000 in
set_option maxHeartbeats 2000000 in
theorem solve_ret (w0 : World) (g k : Nat) (M : Mx) (w : World) (hx0 : Ex w0 w) (hg0 : w0.heap.size ≤ g) (hb : Blk w g 64 (mc M)) (hel : EM M) (hk4 : k ≤ 4) :
    Ret Try.prog 38 [.pointer (some ⟨g, 0, none⟩), .int .i64 (k : Int)] w (fun v w' => ∃ b M', v = .bool b ∧ Blk w' g 64 (mc M') ∧ SolvR M k b M' ∧ Ex w0 w') := by
  have hB0 : Ex w w := Ex.rfl_ _
  refine Ret.of Try.func38 rfl Try.ntmps38 rfl ?_
  refine CW.seq ?_
  refine CW.region ?_
  refine RG.vl rfl rfl rfl (Ev.assign rfl rfl) ?_
  refine RG.done ?_
  refine QW.then_ ?_
  refine CW.seq ?_
  refine CW.seq ?_
  refine CW.region ?_
  refine RG.vl rfl rfl rfl (Ev.move rfl rfl) ?_
  refine RG.vl rfl rfl rfl (Ev.move rfl rfl) ?_
  refine RG.done ?_
  refine QW.then_ ?_
  refine CW.block ?_
  refine CW.loop2 [(0, _), (1, _), (8, _)] ⟨rfl, rfl, rfl, trivial⟩ (fun (i : Nat) (M2 : Mx) => [(9, .int .i64 (i : Int))]) (fun i M2 w' => (i ≤ k ∧ Gs M k M2 i ∧ Blk w' g 64 (mc M2)) ∧ Ex w0 w') (fun i M2 => k - i) (0) (M) ⟨rfl, trivial⟩ ⟨⟨Nat.zero_le _, gs_start hel, hb⟩, hx0⟩ ?_
  rintro i M2 wl1 ⟨⟨hik, hgs, hbk⟩, hxwl1⟩
  refine CW.sub (S' := [(9, _), (0, _), (1, _), (8, _)]) ⟨rfl, rfl, rfl, rfl, trivial⟩ ?_
  refine CW.seq ?_
  refine CW.region ?_
  refine RG.vl rfl rfl rfl (Ev.lss rfl rfl rfl) ?_
  refine RG.done ?_
  refine QW.then_ ?_
  refine CW.seq ?_
  refine CW.condP rfl (fun hc2 => ?_) (fun hc2 => ?_)
  · refine CW.skip ?_
    refine QW.then_ ?_
    refine CW.seq ?_
    refine CW.block ?_
    refine CW.seq ?_
    refine CW.region ?_
    refine RG.vl rfl rfl rfl (Ev.move rfl rfl) ?_
    refine RG.vl rfl rfl rfl (Ev.assign rfl rfl) ?_
    refine RG.done ?_
    refine QW.then_ ?_
    refine CW.seq ?_
    refine CW.seq ?_
    refine CW.region ?_
    refine RG.vl rfl rfl rfl (Ev.move rfl rfl) ?_
    refine RG.vl rfl rfl rfl (Ev.move rfl rfl) ?_
    refine RG.call rfl rfl rfl rfl rfl rfl rfl en_56 (pivot_ret w0 g i M2 _ hxwl1 hg0 hbk hgs.el (by omega)) ?_
    rintro _ w3 ⟨bv, M3, rfl, hbw4, hyp, hno, hxw5⟩
    replace hxwl1 := hxw5
    refine RG.vl rfl rfl rfl (Ev.not rfl rfl) ?_
    refine RG.done ?_
    refine QW.then_ ?_
    refine CW.cond rfl (fun hc6 => ?_) (fun hc6 => ?_)
    · refine CW.seq ?_
      have hbv : bv = false := by simpa using (by assumption : (!bv) = true)
      refine CW.region ?_
      refine RG.vl rfl rfl rfl (Ev.assign rfl rfl) ?_
      refine RG.done ?_
      refine QW.then_ ?_
      refine CW.ret ?_
      refine QW.thenRet ?_
      refine QW.blockR ?_
      refine QW.thenRet ?_
      refine QW.thenRet ?_
      refine QW.blockR ?_
      refine QW.thenRet ?_
      refine QW.ret1 rfl rfl ?_
      obtain ⟨rfl, hz⟩ := hno hbv
      exact ⟨false, _, rfl, hbw4, gs_none hgs hk4 (by omega) hz, hxwl1⟩
    · refine CW.skip ?_
      refine QW.then_ ?_
      refine CW.seq ?_
      have hbv : bv = true := by simpa using (by assumption : (!bv) = false)
      obtain ⟨r0, hr1, hr2, hr3, rfl⟩ := hyp hbv
      have hgr0 := gs_piv hgs hk4 (by omega) hr1 hr2 hr3
      refine CW.region ?_
      refine RG.vl rfl rfl rfl (Ev.move rfl rfl) ?_
      refine RG.done ?_
      refine QW.then_ ?_
      refine CW.block ?_
      refine CW.loop2 [(0, _), (1, _), (5, _), (8, _), (9, _)] ⟨rfl, rfl, rfl, rfl, rfl, trivial⟩ (fun (row : Nat) (M4 : Mx) => [(16, .int .i64 (row : Int))]) (fun row M4 w' => (row ≤ 4 ∧ Gr M k M4 i row ∧ Blk w' g 64 (mc M4)) ∧ Ex w0 w') (fun row M4 => 4 - row) (0) (_) ⟨rfl, trivial⟩ ⟨⟨by omega, hgr0, hbw4⟩, hxwl1⟩ ?_
      rintro row M4 wl7 ⟨⟨hrow, hgr, hbk⟩, hxwl7⟩
      refine CW.sub (S' := [(16, _), (0, _), (1, _), (5, _), (8, _), (9, _)]) ⟨rfl, rfl, rfl, rfl, rfl, rfl, trivial⟩ ?_
      refine CW.seq ?_
      refine CW.region ?_
      refine RG.vl rfl rfl rfl (Ev.lss rfl rfl rfl) ?_
      refine RG.done ?_
      refine QW.then_ ?_
      refine CW.seq ?_
      refine CW.condP rfl (fun hc8 => ?_) (fun hc8 => ?_)
      · refine CW.skip ?_
        refine QW.then_ ?_
        refine CW.seq ?_
        refine CW.block ?_
        refine CW.seq ?_
        refine CW.region ?_
        refine RG.vl rfl rfl rfl (Ev.move rfl rfl) ?_
        refine RG.vl rfl rfl rfl (Ev.assign rfl rfl) ?_
        refine RG.done ?_
        refine QW.then_ ?_
        refine CW.seq ?_
        refine CW.region ?_
        refine RG.vl rfl rfl rfl (Ev.move rfl rfl) ?_
        refine RG.vl rfl rfl rfl (Ev.move rfl rfl) ?_
        refine RG.vl rfl rfl rfl (Ev.neI rfl rfl rfl) ?_
        refine RG.vl rfl rfl rfl (Ev.move rfl rfl) ?_
        refine RG.split (d := 22) rfl (fun hg9 => ?_) (fun hg9 => ?_)
        · refine RG.vl rfl rfl rfl (Ev.move rfl rfl) ?_
          refine RG.vl rfl rfl rfl (Ev.move rfl rfl) ?_
          refine RG.vl rfl rfl rfl (Ev.move rfl rfl) ?_
          refine RG.vl rfl rfl rfl (Ev.nilC rfl rfl) ?_
          refine RG.vl rfl rfl rfl (Ev.idxA rfl rfl rfl Try.underlying64 sz_62 (by omega)) ?_
          refine RG.vl rfl rfl rfl (Ev.idxA rfl rfl rfl Try.underlying62 sz_5 (by omega)) ?_
          refine RG.vl rfl rfl rfl (Ev.ldAA rfl rfl Try.underlying5 rfl (hbk.cells) ((show (mc _)[row * 5 + i * 1]? = some (.int .u8 (M4 row i : Int)) by rw [mc_at _ (by omega) (by omega)]))) ?_
          refine RG.vl rfl rfl rfl (Ev.neI rfl rfl rfl) ?_
          refine RG.vl rfl rfl rfl (Ev.pickT rfl rfl rfl) ?_
          refine RG.done ?_
          refine QW.sub (S' := [(0, _), (1, _), (5, _), (6, _), (8, _), (9, _), (16, _), (31, _)]) ⟨rfl, rfl, rfl, rfl, rfl, rfl, rfl, rfl, trivial⟩ ?_
          refine QW.then_ ?_
          refine CW.condP rfl (fun hc10 => ?_) (fun hc10 => ?_)
          · refine CW.region ?_
            refine RG.vl rfl rfl rfl (Ev.move rfl rfl) ?_
            refine RG.vl rfl rfl rfl (Ev.move rfl rfl) ?_
            refine RG.vl rfl rfl rfl (Ev.move rfl rfl) ?_
            refine RG.vl rfl rfl rfl (Ev.move rfl rfl) ?_
            refine RG.vl rfl rfl rfl (Ev.move rfl rfl) ?_
            refine RG.vl rfl rfl rfl (Ev.move rfl rfl) ?_
            refine RG.vl rfl rfl rfl (Ev.nilC rfl rfl) ?_
            refine RG.vl rfl rfl rfl (Ev.idxA rfl rfl rfl Try.underlying64 sz_62 (by omega)) ?_
            refine RG.vl rfl rfl rfl (Ev.idxA rfl rfl rfl Try.underlying62 sz_5 (by omega)) ?_
            refine RG.vl rfl rfl rfl (Ev.ldAA rfl rfl Try.underlying5 rfl (hbk.cells) ((show (mc _)[row * 5 + i * 1]? = some (.int .u8 (M4 row i : Int)) by rw [mc_at _ (by omega) (by omega)]))) ?_
            refine RG.call rfl rfl rfl rfl rfl rfl rfl en_57 (subtract_ret w0 g row i (M4 row i) M4 _ hxwl7 hg0 hbk hgr.el (by omega) (by omega) (hgr.el row i (by omega) (by omega))) ?_
            rintro _ w11 ⟨rfl, hbw12, hxw13⟩
            replace hxwl7 := hxw13
            refine RG.done ?_
            refine QW.blockN ?_
            refine QW.then_ ?_
            refine CW.region ?_
            refine RG.vl rfl rfl rfl (Ev.addI rfl rfl rfl (by omega)) ?_
            refine RG.vl rfl rfl rfl (Ev.move rfl rfl) ?_
            refine RG.done ?_
            refine QW.round2 (row + 1) (_) ⟨rfl, trivial⟩ ⟨rfl, rfl, rfl, rfl, rfl, trivial⟩ ⟨⟨by omega, gr_sub hgr hk4 (by omega) (by omega) (by omega), hbw12⟩, hxwl7⟩ (by omega)
          · refine CW.skip ?_
            refine QW.blockN ?_
            refine QW.then_ ?_
            refine CW.region ?_
            refine RG.vl rfl rfl rfl (Ev.addI rfl rfl rfl (by omega)) ?_
            refine RG.vl rfl rfl rfl (Ev.move rfl rfl) ?_
            refine RG.done ?_
            refine QW.round2 (row + 1) (M4) ⟨rfl, trivial⟩ ⟨rfl, rfl, rfl, rfl, rfl, trivial⟩ ⟨⟨by omega, gr_skip hgr (by omega), hbk⟩, hxwl7⟩ (by omega)
        · refine RG.pass rfl rfl rfl ?_
          refine RG.pass rfl rfl rfl ?_
          refine RG.pass rfl rfl rfl ?_
          refine RG.pass rfl rfl rfl ?_
          refine RG.pass rfl rfl rfl ?_
          refine RG.pass rfl rfl rfl ?_
          refine RG.pass rfl rfl rfl ?_
          refine RG.pass rfl rfl rfl ?_
          refine RG.vl rfl rfl rfl (Ev.pickF rfl rfl rfl) ?_
          refine RG.done ?_
          refine QW.sub (S' := [(0, _), (1, _), (5, _), (6, _), (8, _), (9, _), (16, _), (31, _)]) ⟨rfl, rfl, rfl, rfl, rfl, rfl, rfl, rfl, trivial⟩ ?_
          refine QW.then_ ?_
          refine CW.condF rfl ?_
          refine CW.skip ?_
          refine QW.blockN ?_
          refine QW.then_ ?_
          refine CW.region ?_
          refine RG.vl rfl rfl rfl (Ev.addI rfl rfl rfl (by omega)) ?_
          refine RG.vl rfl rfl rfl (Ev.move rfl rfl) ?_
          refine RG.done ?_
          refine QW.round2 (row + 1) (M4) ⟨rfl, trivial⟩ ⟨rfl, rfl, rfl, rfl, rfl, trivial⟩ ⟨⟨by omega, gr_skip hgr (by omega), hbk⟩, hxwl7⟩ (by omega)
      · refine CW.exit ?_
        refine QW.thenExit ?_
        refine QW.thenExit ?_
        refine QW.blockHit ?_
        refine QW.blockN ?_
        refine QW.then_ ?_
        refine CW.region ?_
        refine RG.vl rfl rfl rfl (Ev.addI rfl rfl rfl (by omega)) ?_
        refine RG.vl rfl rfl rfl (Ev.move rfl rfl) ?_
        refine RG.done ?_
        refine QW.round2 (i + 1) (M4) ⟨rfl, trivial⟩ ⟨rfl, rfl, rfl, trivial⟩ ⟨⟨by omega, by obtain rfl : row = 4 := (by omega); exact gr_end hgr (by omega), hbk⟩, hxwl7⟩ (by omega)
  · refine CW.exit ?_
    refine QW.thenExit ?_
    refine QW.thenExit ?_
    refine QW.blockHit ?_
    refine QW.then_ ?_
    refine CW.seq ?_
    refine CW.seq ?_
    obtain rfl : i = k := by omega
    refine CW.region ?_
    refine RG.vl rfl rfl rfl (Ev.move rfl rfl) ?_
    refine RG.vl rfl rfl rfl (Ev.assign rfl rfl) ?_
    refine RG.done ?_
    refine QW.then_ ?_
    refine CW.block ?_
    refine CW.loop1 [(0, _)] ⟨rfl, trivial⟩ (fun (row : Nat) => [(7, .int .i64 (row : Int))]) (fun row w' => (i ≤ row ∧ row ≤ 4 ∧ (∀ r, i ≤ r → r < row → M2 r 4 = 0) ∧ Blk w' g 64 (mc M2)) ∧ Ex w0 w') (fun row => 4 - row) (i) ⟨rfl, trivial⟩ ⟨⟨Nat.le_refl _, hk4, fun r h1 h2 => absurd h1 (by omega), hbk⟩, hxwl1⟩ ?_
    rintro row wl14 ⟨⟨hrk, hrow4, hz4, hbk⟩, hxwl14⟩
    refine CW.sub (S' := [(7, _), (0, _)]) ⟨rfl, rfl, trivial⟩ ?_
    refine CW.seq ?_
    refine CW.seq ?_
    refine CW.region ?_
    refine RG.vl rfl rfl rfl (Ev.move rfl rfl) ?_
    refine RG.vl rfl rfl rfl (Ev.lss rfl rfl rfl) ?_
    refine RG.done ?_
    refine QW.then_ ?_
    refine CW.condP rfl (fun hc15 => ?_) (fun hc15 => ?_)
    · refine CW.skip ?_
      refine QW.then_ ?_
      refine CW.seq ?_
      refine CW.block ?_
      refine CW.seq ?_
      refine CW.region ?_
      refine RG.vl rfl rfl rfl (Ev.move rfl rfl) ?_
      refine RG.vl rfl rfl rfl (Ev.move rfl rfl) ?_
      refine RG.vl rfl rfl rfl (Ev.nilC rfl rfl) ?_
      refine RG.vl rfl rfl rfl (Ev.idxA rfl rfl rfl Try.underlying64 sz_62 (by omega)) ?_
      refine RG.vl rfl rfl rfl (Ev.idxA (i := 4) rfl rfl rfl Try.underlying62 sz_5 (by omega)) ?_
      refine RG.vl rfl rfl rfl (Ev.ldAA rfl rfl Try.underlying5 rfl (hbk.cells) ((show (mc _)[row * 5 + 4 * 1]? = some (.int .u8 (M2 row 4 : Int)) by rw [mc_at _ (by omega) (by omega)]))) ?_
      refine RG.vl rfl rfl rfl (Ev.neI rfl rfl rfl) ?_
      refine RG.done ?_
      refine QW.then_ ?_
      refine CW.condP rfl (fun hc16 => ?_) (fun hc16 => ?_)
      · refine CW.seq ?_
        refine CW.region ?_
        refine RG.vl rfl rfl rfl (Ev.assign rfl rfl) ?_
        refine RG.done ?_
        refine QW.then_ ?_
        refine CW.ret ?_
        refine QW.blockR ?_
        refine QW.thenRet ?_
        refine QW.thenRet ?_
        refine QW.blockR ?_
        refine QW.thenRet ?_
        refine QW.ret1 rfl rfl ?_
        exact ⟨false, _, rfl, hbk, gs_no hgs hrk (by omega) (by omega), hxwl14⟩
      · refine CW.skip ?_
        refine QW.blockN ?_
        refine QW.then_ ?_
        refine CW.region ?_
        refine RG.vl rfl rfl rfl (Ev.move rfl rfl) ?_
        refine RG.vl rfl rfl rfl (Ev.addI rfl rfl rfl (by omega)) ?_
        refine RG.vl rfl rfl rfl (Ev.assign rfl rfl) ?_
        refine RG.done ?_
        refine QW.round1 (row + 1) ⟨rfl, trivial⟩ ⟨rfl, trivial⟩ ⟨⟨by omega, by omega, fun r h1 h2 => by rcases Nat.lt_or_ge r row with h | h; exact hz4 r h1 h; obtain rfl : r = row := (by omega); omega, hbk⟩, hxwl14⟩ (by omega)
    · refine CW.exit ?_
      refine QW.thenExit ?_
      refine QW.thenExit ?_
      refine QW.blockHit ?_
      refine QW.then_ ?_
      refine CW.seq ?_
      refine CW.region ?_
      refine RG.vl rfl rfl rfl (Ev.assign rfl rfl) ?_
      refine RG.done ?_
      refine QW.then_ ?_
      refine CW.ret ?_
      refine QW.ret1 rfl rfl ?_
      obtain rfl : row = 4 := by omega
      exact ⟨true, _, rfl, hbk, gs_yes hgs hk4 (fun r h1 h2 => hz4 r h1 h2), hxwl14⟩

end Go.Proofs.Ytjhgihgggofocaa
