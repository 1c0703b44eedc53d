/- Walks (FB). Written by program. -/
import Derived.Test.YtjhgihgggofocaaT
import Derived.Test.YtjhgihgggofocaaFA
namespace Go.Proofs.Ytjhgihgggofocaa
open Go.RowKit
set_option maxRecDepth 100000 in
set_option maxHeartbeats 1000000 in
theorem eval_ret (g : Nat) (u : Value) (p : List Nat) (x : Nat) (w : World) (hb : Blk w g 101 tabs) (hl : RdL w 1 encN u p) (hlen : p.length ≤ 100000) (hp : El p) (hx : x < 64) :
    Ret Try.prog 72 [.pointer (some ⟨g, 0, none⟩), u, .int .u8 (x : Int)] w (fun v w' => v = .int .u8 (evl p x : Int) ∧ Ex w w') := by
  have hB0 : Ex w w := Ex.rfl_ _
  refine Ret.of Try.func72 rfl Try.ntmps72 rfl ?_
  refine CW.seq ?_
  refine CW.region ?_
  refine RG.vl rfl rfl rfl (Ev.assign rfl rfl) ?_
  refine RG.done ?_
  refine QW.then_ ?_
  refine CW.seq ?_
  refine CW.region ?_
  refine RG.vl rfl rfl rfl (Ev.assign rfl rfl) ?_
  refine RG.done ?_
  refine QW.then_ ?_
  refine CW.seq ?_
  refine CW.seq ?_
  refine CW.region ?_
  refine RG.vl rfl rfl rfl (Ev.move rfl rfl) ?_
  refine RG.vl rfl rfl rfl (Ev.lenL rfl rfl rfl Try.underlying22 (hl)) ?_
  refine RG.vl rfl rfl rfl (Ev.subI rfl rfl rfl (by omega)) ?_
  refine RG.vl rfl rfl rfl (Ev.assign rfl rfl) ?_
  refine RG.done ?_
  refine QW.then_ ?_
  refine CW.block ?_
  refine CW.loop1 [(0, _), (1, _), (2, _), (6, _)] ⟨rfl, rfl, rfl, rfl, trivial⟩ (fun (k1 : Nat) => [(7, .int .u8 (evl (p.drop k1) x : Int)), (8, .int .i64 ((k1 : Int) - 1))]) (fun k1 w' => (k1 ≤ p.length) ∧ Ex w w') (fun k1 => k1) (p.length) ⟨by rw [List.drop_length]; rfl, rfl, trivial⟩ ⟨Nat.le_refl _, hB0⟩ ?_
  rintro k1 wl1 ⟨hk1, hxwl1⟩
  refine CW.sub (S' := [(7, _), (8, _), (0, _), (1, _), (2, _), (6, _)]) ⟨rfl, rfl, rfl, rfl, rfl, rfl, trivial⟩ ?_
  refine CW.seq ?_
  refine CW.seq ?_
  refine CW.region ?_
  refine RG.vl rfl rfl rfl (Ev.move rfl rfl) ?_
  refine RG.vl rfl rfl rfl (Ev.geq rfl rfl rfl) ?_
  refine RG.done ?_
  refine QW.then_ ?_
  refine CW.condP rfl (fun hc2 => ?_) (fun hc2 => ?_)
  · refine CW.skip ?_
    refine QW.then_ ?_
    refine CW.seq ?_
    refine CW.block ?_
    obtain ⟨k, rfl⟩ : ∃ k, k1 = k + 1 := ⟨k1 - 1, by omega⟩
    obtain ⟨c, hk⟩ : ∃ c, p[k]? = some c := ⟨_, List.getElem?_eq_getElem (by omega)⟩
    have hc := hp.get hk
    have hv := evl_lt (p.drop (k + 1)) x (hp.drop _)
    refine CW.draw [] (.ex) 10 rfl mixed (fun wd3 hxwd3 => ?_)
    replace hxwl1 := Ex.tr hxwl1 hxwd3
    have hE4 := hxwd3
    refine AG.takeW 0 rfl (by kernel_rfl) (by kernel_rfl) rfl rfl rfl (fun _ => Ev.move rfl rfl) ?_
    refine AG.takeW 1 rfl (by kernel_rfl) (by kernel_rfl) rfl rfl rfl (fun _ => Ev.move rfl rfl) ?_
    refine AG.takeW 2 rfl (by kernel_rfl) (by kernel_rfl) rfl rfl rfl (fun _ => Ev.move rfl rfl) ?_
    refine AG.takeW 4 rfl (by kernel_rfl) (by kernel_rfl) rfl rfl rfl (fun _ => Ev.move rfl rfl) ?_
    refine AG.takeW 5 rfl (by kernel_rfl) (by kernel_rfl) rfl rfl rfl (fun _ => (Ev.move rfl rfl).conv (congrArg (Value.int .i64) (show ((k + 1 : Nat) : Int) - 1 = (k : Int) by omega))) ?_
    refine AG.idxL _ 6 rfl (by kernel_rfl) (by kernel_rfl) rfl rfl rfl rfl rfl rfl Try.underlying22 sz_5 ((hl.ext hxwl1)) (hk) (fun p5 hp5b hp5 => ?_)
    refine AG.take 7 rfl (by kernel_rfl) (by kernel_rfl) rfl rfl rfl (fun wq hq => Ev.ld0 rfl rfl Try.underlying5 rfl (hp5.ext hq hp5b) (rfl)) ?_
    refine AG.only 3 rfl (by kernel_rfl) ?_
    refine RG.call rfl rfl rfl rfl rfl rfl rfl en_51 (mul_ret _ _ _ _ (hb.ext hxwl1) (by exact hv) (by exact hx)) ?_
    rintro _ w7 ⟨rfl, hx7⟩
    replace hxwl1 := Ex.tr hxwl1 hx7
    replace hE4 := Ex.tr hE4 hx7
    have hE8 := hx7
    refine RG.done ?_
    refine QW.an (fun _ => hE8) ?_
    refine AG.takeW 8 rfl (by kernel_rfl) (by kernel_rfl) rfl rfl rfl (fun _ => Ev.xor8 rfl rfl rfl (by have := gm_lt (evl (p.drop (k + 1)) x) x; omega) (by have := gm_lt (evl (p.drop (k + 1)) x) x; omega)) ?_
    refine AG.takeW 9 rfl (by kernel_rfl) (by kernel_rfl) rfl rfl rfl (fun _ => Ev.assign rfl rfl) ?_
    refine AG.done (by kernel_rfl) ?_
    refine QW.blockN ?_
    refine QW.then_ ?_
    refine CW.region ?_
    refine RG.vl rfl rfl rfl (Ev.move rfl rfl) ?_
    refine RG.vl rfl rfl rfl (Ev.subI rfl rfl rfl (by omega)) ?_
    refine RG.vl rfl rfl rfl (Ev.assign rfl rfl) ?_
    refine RG.done ?_
    refine QW.sub (S' := [(0, _), (1, _), (2, _), (6, _), (7, _), (8, _)]) ⟨rfl, rfl, rfl, rfl, rfl, rfl, trivial⟩ ?_
    refine QW.round1 (k) ⟨by rw [List.drop_eq_getElem_cons (show k < p.length by omega)]; rw [List.getElem?_eq_getElem (show k < p.length by omega)] at hk; injection hk with hk; rw [hk]; rfl, congrArg (fun x => some (Value.int .i64 x)) (show ((k + 1 : Nat) : Int) - 1 - 1 = (k : Int) - 1 by omega), trivial⟩ ⟨rfl, rfl, rfl, rfl, trivial⟩ ⟨by omega, (Ex.tr hB0 hxwl1)⟩ (by omega)
  · refine CW.exit ?_
    refine QW.thenExit ?_
    refine QW.thenExit ?_
    refine QW.blockHit ?_
    refine QW.then_ ?_
    refine CW.seq ?_
    refine CW.region ?_
    refine RG.vl rfl rfl rfl (Ev.move rfl rfl) ?_
    refine RG.vl rfl rfl rfl (Ev.assign rfl rfl) ?_
    refine RG.done ?_
    refine QW.then_ ?_
    refine CW.ret ?_
    refine QW.ret1 rfl rfl ?_
    have hB := (Ex.tr hB0 hxwl1)
    obtain rfl : k1 = 0 := by omega
    rw [List.drop_zero]
    exact ⟨rfl, hB⟩

set_option maxRecDepth 100000 in
set_option maxHeartbeats 1000000 in
theorem check_ret (u : Value) (vs : List Value) (ls : List (List Nat)) (w : World) (hl : RdL w 1 encV u vs) (hn : vs.length = ls.length) (hn2 : vs.length ≤ 100) (hall : ∀ (i : Nat) (v : Value) (l : List Nat), vs[i]? = some v → ls[i]? = some l → RdL w 1 encN v l) :
    Ret Try.prog 49 [u] w (fun v w' => v = .int .i64 (errL ls) ∧ Ex w w') := by
  have hB0 : Ex w w := Ex.rfl_ _
  refine Ret.of Try.func49 rfl Try.ntmps49 rfl ?_
  refine CW.seq ?_
  refine CW.region ?_
  refine RG.vl rfl rfl rfl (Ev.assign rfl rfl) ?_
  refine RG.done ?_
  refine QW.then_ ?_
  refine CW.seq ?_
  refine CW.seq ?_
  refine CW.region ?_
  refine RG.vl rfl rfl rfl (Ev.move rfl rfl) ?_
  refine RG.vl rfl rfl rfl (Ev.lenL rfl rfl rfl Try.underlying95 (hl)) ?_
  refine RG.vl rfl rfl rfl (Ev.move rfl rfl) ?_
  refine RG.done ?_
  refine QW.then_ ?_
  refine CW.block ?_
  refine CW.loop1 [(0, _), (9, _), (10, _)] ⟨rfl, rfl, rfl, trivial⟩ (fun (i : Nat) => [(11, .int .i64 i)]) (fun i w' => (i ≤ vs.length ∧ ∀ j l, j < i → ls[j]? = some l → l.length ≤ 128) ∧ Ex w w') (fun i => vs.length - i) (0) ⟨rfl, trivial⟩ ⟨⟨Nat.zero_le _, fun j l h => absurd h (by omega)⟩, hB0⟩ ?_
  rintro i wl1 ⟨⟨hi, hle⟩, hxwl1⟩
  refine CW.sub (S' := [(11, _), (0, _), (9, _), (10, _)]) ⟨rfl, rfl, rfl, rfl, trivial⟩ ?_
  refine CW.seq ?_
  refine CW.region ?_
  refine RG.vl rfl rfl rfl (Ev.lss rfl rfl rfl) ?_
  refine RG.done ?_
  refine QW.then_ ?_
  refine CW.seq ?_
  refine CW.condP rfl (fun hc2 => ?_) (fun hc2 => ?_)
  · refine CW.skip ?_
    refine QW.then_ ?_
    refine CW.seq ?_
    refine CW.block ?_
    refine CW.seq ?_
    obtain ⟨vi, hvi⟩ : ∃ vi, vs[i]? = some vi := ⟨_, List.getElem?_eq_getElem (by omega)⟩
    obtain ⟨li, hli⟩ : ∃ li, ls[i]? = some li := ⟨_, List.getElem?_eq_getElem (by omega)⟩
    have hri := hall i vi li hvi hli
    have hml := List.mem_of_getElem? hli
    refine CW.region ?_
    refine RG.idxL rfl rfl rfl rfl rfl rfl Try.underlying95 sz_22 ((hl.ext hxwl1)) (hvi) (fun p3 hp3b hp3 => ?_)
    refine RG.vl rfl rfl rfl (Ev.ld0 rfl rfl Try.underlying22 rfl (hp3) (rfl)) ?_
    replace hri := hri.ext (Ex.tr hB0 hxwl1)
    refine RG.vl rfl rfl rfl (Ev.assign rfl rfl) ?_
    refine RG.done ?_
    refine QW.then_ ?_
    refine CW.seq ?_
    refine CW.region ?_
    refine RG.vl rfl rfl rfl (Ev.move rfl rfl) ?_
    refine RG.vl rfl rfl rfl (Ev.lenL rfl rfl rfl Try.underlying22 (hri)) ?_
    refine RG.vl rfl rfl rfl (Ev.gtr rfl rfl rfl) ?_
    refine RG.done ?_
    refine QW.then_ ?_
    refine CW.condP rfl (fun hc4 => ?_) (fun hc4 => ?_)
    · refine CW.seq ?_
      refine CW.region ?_
      refine RG.vl rfl rfl rfl (Ev.assign rfl rfl) ?_
      refine RG.done ?_
      refine QW.then_ ?_
      refine CW.ret ?_
      refine QW.blockR ?_
      refine QW.thenRet ?_
      refine QW.thenRet ?_
      refine QW.blockR ?_
      refine QW.thenRet ?_
      refine QW.ret1 rfl rfl ?_
      have hB := (Ex.tr hB0 hxwl1)
      exact ⟨by rw [errL_long hml (by omega)], hB⟩
    · refine CW.skip ?_
      refine QW.blockN ?_
      refine QW.then_ ?_
      refine CW.region ?_
      refine RG.vl rfl rfl rfl (Ev.addI rfl rfl rfl (by omega)) ?_
      refine RG.vl rfl rfl rfl (Ev.move rfl rfl) ?_
      refine RG.done ?_
      refine QW.round1 (i + 1) ⟨rfl, trivial⟩ ⟨rfl, rfl, rfl, trivial⟩ ⟨⟨by omega, fun j l hj hl' => by rcases Nat.lt_or_ge j i with h | h; exact hle j l h hl'; obtain rfl : j = i := (by omega); rw [hli] at hl'; injection hl' with hl'; subst hl'; omega⟩, (Ex.tr hB0 hxwl1)⟩ (by omega)
  · refine CW.exit ?_
    refine QW.thenExit ?_
    refine QW.thenExit ?_
    refine QW.blockHit ?_
    refine QW.then_ ?_
    refine CW.seq ?_
    refine CW.seq ?_
    have hlong : ∀ l ∈ ls, l.length ≤ 128 := fun l hl => by obtain ⟨j, hj⟩ := List.mem_iff_getElem?.1 hl; exact hle j l (by have := (List.getElem?_eq_some_iff.1 hj).1; omega) hj
    refine CW.region ?_
    refine RG.vl rfl rfl rfl (Ev.move rfl rfl) ?_
    refine RG.vl rfl rfl rfl (Ev.lenL rfl rfl rfl Try.underlying95 ((hl.ext hxwl1))) ?_
    refine RG.vl rfl rfl rfl (Ev.move rfl rfl) ?_
    refine RG.done ?_
    refine QW.then_ ?_
    refine CW.block ?_
    replace hl := (hl.ext hxwl1)
    have hR5 := (Ex.tr hB0 hxwl1)
    refine CW.loop1 [(19, _), (20, _)] ⟨rfl, rfl, trivial⟩ (fun (i : Nat) => [(21, .int .i64 i)]) (fun i w' => (i ≤ vs.length ∧ ∀ j l, j < i → ls[j]? = some l → El l) ∧ Ex wl1 w') (fun i => vs.length - i) (0) ⟨rfl, trivial⟩ ⟨⟨Nat.zero_le _, fun j l h => absurd h (by omega)⟩, (Ex.rfl_ _)⟩ ?_
    rintro i wl6 ⟨⟨hi, hels⟩, hxwl6⟩
    refine CW.sub (S' := [(21, _), (19, _), (20, _)]) ⟨rfl, rfl, rfl, trivial⟩ ?_
    refine CW.seq ?_
    refine CW.region ?_
    refine RG.vl rfl rfl rfl (Ev.lss rfl rfl rfl) ?_
    refine RG.done ?_
    refine QW.then_ ?_
    refine CW.seq ?_
    refine CW.condP rfl (fun hc7 => ?_) (fun hc7 => ?_)
    · refine CW.skip ?_
      refine QW.then_ ?_
      refine CW.seq ?_
      refine CW.block ?_
      refine CW.seq ?_
      obtain ⟨vi, hvi⟩ : ∃ vi, vs[i]? = some vi := ⟨_, List.getElem?_eq_getElem (by omega)⟩
      obtain ⟨li, hli⟩ : ∃ li, ls[i]? = some li := ⟨_, List.getElem?_eq_getElem (by omega)⟩
      have hri := hall i vi li hvi hli
      have hml := List.mem_of_getElem? hli
      refine CW.region ?_
      refine RG.idxL rfl rfl rfl rfl rfl rfl Try.underlying95 sz_22 ((hl.ext hxwl6)) (hvi) (fun p8 hp8b hp8 => ?_)
      refine RG.vl rfl rfl rfl (Ev.ld0 rfl rfl Try.underlying22 rfl (hp8) (rfl)) ?_
      replace hri := hri.ext (Ex.tr hR5 hxwl6)
      refine RG.vl rfl rfl rfl (Ev.assign rfl rfl) ?_
      refine RG.done ?_
      refine QW.then_ ?_
      refine CW.seq ?_
      have hl128 := hlong li hml
      refine CW.region ?_
      refine RG.vl rfl rfl rfl (Ev.move rfl rfl) ?_
      refine RG.vl rfl rfl rfl (Ev.lenL rfl rfl rfl Try.underlying22 (hri)) ?_
      refine RG.vl rfl rfl rfl (Ev.move rfl rfl) ?_
      refine RG.done ?_
      refine QW.then_ ?_
      refine CW.block ?_
      replace hl := (hl.ext hxwl6)
      have hR9 := (Ex.tr hR5 hxwl6)
      have hR10 := hxwl6
      refine CW.loop1 [(19, _), (20, _), (21, _), (25, _), (26, _)] ⟨rfl, rfl, rfl, rfl, rfl, trivial⟩ (fun (k : Nat) => [(27, .int .i64 k)]) (fun k w' => (k ≤ li.length ∧ ∀ j a, j < k → li[j]? = some a → a < 64) ∧ Ex wl6 w') (fun k => li.length - k) (0) ⟨rfl, trivial⟩ ⟨⟨Nat.zero_le _, fun j l h => absurd h (by omega)⟩, (Ex.rfl_ _)⟩ ?_
      rintro k wl11 ⟨⟨hkl, hel⟩, hxwl11⟩
      refine CW.sub (S' := [(27, _), (19, _), (20, _), (21, _), (25, _), (26, _)]) ⟨rfl, rfl, rfl, rfl, rfl, rfl, trivial⟩ ?_
      refine CW.seq ?_
      refine CW.region ?_
      refine RG.vl rfl rfl rfl (Ev.lss rfl rfl rfl) ?_
      refine RG.done ?_
      refine QW.then_ ?_
      refine CW.seq ?_
      refine CW.condP rfl (fun hc12 => ?_) (fun hc12 => ?_)
      · refine CW.skip ?_
        refine QW.then_ ?_
        refine CW.seq ?_
        refine CW.block ?_
        refine CW.seq ?_
        obtain ⟨c, hc⟩ : ∃ c, li[k]? = some c := ⟨_, List.getElem?_eq_getElem (by omega)⟩
        refine CW.region ?_
        refine RG.idxL rfl rfl rfl rfl rfl rfl Try.underlying22 sz_5 ((hri.ext hxwl11)) (hc) (fun p13 hp13b hp13 => ?_)
        refine RG.vl rfl rfl rfl (Ev.ld0 rfl rfl Try.underlying5 rfl (hp13) (rfl)) ?_
        refine RG.vl rfl rfl rfl (Ev.assign rfl rfl) ?_
        refine RG.done ?_
        refine QW.then_ ?_
        refine CW.seq ?_
        refine CW.region ?_
        refine RG.vl rfl rfl rfl (Ev.move rfl rfl) ?_
        refine RG.vl rfl rfl rfl (Ev.geq rfl rfl rfl) ?_
        refine RG.done ?_
        refine QW.then_ ?_
        refine CW.condP rfl (fun hc14 => ?_) (fun hc14 => ?_)
        · refine CW.seq ?_
          refine CW.region ?_
          refine RG.vl rfl rfl rfl (Ev.assign rfl rfl) ?_
          refine RG.done ?_
          refine QW.then_ ?_
          refine CW.ret ?_
          refine QW.blockR ?_
          refine QW.thenRet ?_
          refine QW.thenRet ?_
          refine QW.blockR ?_
          refine QW.blockR ?_
          refine QW.thenRet ?_
          refine QW.thenRet ?_
          refine QW.blockR ?_
          refine QW.thenRet ?_
          refine QW.ret1 rfl rfl ?_
          have hB := (Ex.tr hR9 hxwl11)
          exact ⟨by rw [errL_arg hlong hml (List.mem_of_getElem? hc) (by omega)], hB⟩
        · refine CW.skip ?_
          refine QW.blockN ?_
          refine QW.then_ ?_
          refine CW.region ?_
          refine RG.vl rfl rfl rfl (Ev.addI rfl rfl rfl (by omega)) ?_
          refine RG.vl rfl rfl rfl (Ev.move rfl rfl) ?_
          refine RG.done ?_
          refine QW.round1 (k + 1) ⟨rfl, trivial⟩ ⟨rfl, rfl, rfl, rfl, rfl, trivial⟩ ⟨⟨by omega, fun j a hj ha => by rcases Nat.lt_or_ge j k with h | h; exact hel j a h ha; obtain rfl : j = k := (by omega); rw [hc] at ha; injection ha with ha; subst ha; omega⟩, hxwl11⟩ (by omega)
      · refine CW.exit ?_
        refine QW.thenExit ?_
        refine QW.thenExit ?_
        refine QW.blockHit ?_
        refine QW.blockN ?_
        refine QW.then_ ?_
        refine CW.region ?_
        refine RG.vl rfl rfl rfl (Ev.addI rfl rfl rfl (by omega)) ?_
        refine RG.vl rfl rfl rfl (Ev.move rfl rfl) ?_
        refine RG.done ?_
        refine QW.round1 (i + 1) ⟨rfl, trivial⟩ ⟨rfl, rfl, trivial⟩ ⟨⟨by omega, fun j l hj hl' => by rcases Nat.lt_or_ge j i with h | h; exact hels j l h hl'; obtain rfl : j = i := (by omega); rw [hli] at hl'; injection hl' with hl'; subst hl'; exact fun a ha => by obtain ⟨q, hq⟩ := List.mem_iff_getElem?.1 ha; exact hel q a (by have := (List.getElem?_eq_some_iff.1 hq).1; omega) hq⟩, (Ex.tr hR10 hxwl11)⟩ (by omega)
    · refine CW.exit ?_
      refine QW.thenExit ?_
      refine QW.thenExit ?_
      refine QW.blockHit ?_
      refine QW.then_ ?_
      refine CW.seq ?_
      refine CW.region ?_
      refine RG.vl rfl rfl rfl (Ev.assign rfl rfl) ?_
      refine RG.done ?_
      refine QW.then_ ?_
      refine CW.ret ?_
      refine QW.ret1 rfl rfl ?_
      have hB := (Ex.tr hR5 hxwl6)
      exact ⟨by rw [errL_ok hlong (fun l hl => by obtain ⟨j, hj⟩ := List.mem_iff_getElem?.1 hl; exact hels j l (by have := (List.getElem?_eq_some_iff.1 hj).1; omega) hj)], hB⟩

end Go.Proofs.Ytjhgihgggofocaa
