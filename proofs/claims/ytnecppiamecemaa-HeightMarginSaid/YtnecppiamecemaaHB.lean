/- Chapter 21: walks (HB). Written by program. -/
import Derived.Test.YtnecppiamecemaaT
import Derived.Test.YtnecppiamecemaaHA
namespace Go.Proofs.Ytnecppiamecemaa
open Go.RowKit
set_option maxRecDepth 100000 in
set_option maxHeartbeats 1000000 in
theorem given_ret (v : Value) (l : List Br) (w : World) (hl : RdL w 3 Br.c v l) (hlen : l.length ≤ 1000) :
    Ret Try.prog 13 [v] w (fun v w' => RdL w' 3 Br.c v l ∧ Ex w w') := by
  have hB0 : Ex w w := Ex.rfl_ _
  refine Ret.of Try.func13 rfl Try.ntmps13 rfl ?_
  refine CW.seq ?_
  refine CW.region ?_
  refine RG.vl rfl rfl rfl (Ev.assign rfl rfl) ?_
  refine RG.done ?_
  refine QW.then_ ?_
  refine CW.seq ?_
  refine CW.region ?_
  refine RG.vl rfl rfl rfl (Ev.assign rfl rfl) ?_
  refine RG.done ?_
  refine QW.then_ ?_
  refine CW.seq ?_
  refine CW.seq ?_
  refine CW.region ?_
  refine RG.vl rfl rfl rfl (Ev.move rfl rfl) ?_
  refine RG.vl rfl rfl rfl (Ev.lenL rfl rfl rfl Try.underlying24 (hl)) ?_
  refine RG.vl rfl rfl rfl (Ev.move rfl rfl) ?_
  refine RG.done ?_
  refine QW.then_ ?_
  refine CW.block ?_
  refine CW.loop2 [(2, _), (6, _), (7, _)] ⟨rfl, rfl, rfl, trivial⟩ (fun (k : Nat) (u : Value) => [(8, .int .i64 k), (3, u)]) (fun k u w' => (k ≤ l.length ∧ w'.ownsRow w.heap.size 47 3 u k ((l.take k).flatMap Br.c)) ∧ Ex w w') (fun k u => l.length - k) (0) (.slice none 0 0) ⟨rfl, rfl, trivial⟩ ⟨⟨Nat.zero_le _, own_nil _ _ _ _⟩, hB0⟩ ?_
  rintro k u wl1 ⟨⟨hkl, hown⟩, hxwl1⟩
  refine CW.sub (S' := [(8, _), (3, _), (2, _), (6, _), (7, _)]) ⟨rfl, rfl, rfl, rfl, rfl, trivial⟩ ?_
  refine CW.seq ?_
  refine CW.region ?_
  refine RG.vl rfl rfl rfl (Ev.lss rfl rfl rfl) ?_
  refine RG.done ?_
  refine QW.then_ ?_
  refine CW.seq ?_
  refine CW.condP rfl (fun hc2 => ?_) (fun hc2 => ?_)
  · refine CW.skip ?_
    refine QW.then_ ?_
    refine CW.seq ?_
    refine CW.block ?_
    refine CW.seq ?_
    obtain ⟨b, hk⟩ : ∃ b, l[k]? = some b := ⟨l[k]'(by omega), List.getElem?_eq_getElem _⟩
    refine CW.region ?_
    refine RG.idxL rfl rfl rfl rfl rfl rfl Try.underlying24 sz_48 ((hl.ext hxwl1)) (hk) (fun p3 hp3b hp3 => ?_)
    refine RG.vl rfl rfl rfl (Ev.ldAgg rfl rfl Try.underlying48 rfl sz_48 rfl (hp3)) ?_
    refine RG.local_ rfl rfl rfl rfl (fun _ => rfl) rfl rfl (fun _ => rfl) inf_48 rfl rfl rfl (fun g4 w4 eg4 hx4 hb4 => ?_)
    replace hxwl1 := Ex.tr hxwl1 hx4
    have hE5 := hx4
    refine RG.done ?_
    refine QW.then_ ?_
    refine CW.region ?_
    refine RG.vl rfl rfl rfl (Ev.move rfl rfl) ?_
    refine RG.vl rfl rfl rfl (Ev.ldAgg rfl rfl Try.underlying48 rfl sz_48 rfl (hb4.cells)) ?_
    refine RG.buildD (xs := [.tmp 13]) rfl rfl rfl rfl rfl rfl rfl Try.underlying34 inf_47 rfl rfl rfl rfl (fun g6 w6 eg6 hx6 hb6 => ?_)
    have hsep7 := own_new (own_ext hown hE5) eg6
    replace hxwl1 := Ex.tr hxwl1 hx6
    replace hE5 := Ex.tr hE5 hx6
    have hE8 := hx6
    refine RG.app rfl rfl rfl rfl rfl rfl rfl Try.underlying34 inf_47 rfl rfl (own_ext hown hE5) rfl (fun _ => ⟨_, rfl, hb6.cells⟩) rfl (by simp only [maxLen]; omega) (by omega) (hxwl1.size) (fun v9 wa10 hown11 hgr12 hat13 => ?_)
    have hb14 := Blk.grown hb6 hgr12 hsep7.symm
    have hsep15 := sep_app hat13 hsep7 (Blk.lt hb6)
    replace hxwl1 := own_block (own_ext hown hE5) hxwl1 hgr12 (Nat.le_refl _) hxwl1.size
    refine RG.vl rfl rfl rfl (Ev.assign rfl rfl) ?_
    refine RG.done ?_
    refine QW.blockN ?_
    refine QW.then_ ?_
    refine CW.region ?_
    refine RG.vl rfl rfl rfl (Ev.addI rfl rfl rfl (by omega)) ?_
    refine RG.vl rfl rfl rfl (Ev.move rfl rfl) ?_
    refine RG.done ?_
    refine QW.round2 (k + 1) (v9) ⟨rfl, rfl, trivial⟩ ⟨rfl, rfl, rfl, trivial⟩ ⟨⟨by omega, by rw [take_snoc l k b hk, List.flatMap_append]; exact hown11⟩, (Ex.tr hB0 hxwl1)⟩ (by omega)
  · refine CW.exit ?_
    refine QW.thenExit ?_
    refine QW.thenExit ?_
    refine QW.blockHit ?_
    refine QW.then_ ?_
    refine CW.seq ?_
    refine CW.region ?_
    refine RG.vl rfl rfl rfl (Ev.move rfl rfl) ?_
    refine RG.vl rfl rfl rfl (Ev.assign rfl rfl) ?_
    refine RG.done ?_
    refine QW.then_ ?_
    refine CW.ret ?_
    refine QW.ret1 rfl rfl ?_
    have hB := (Ex.tr hB0 hxwl1)
    have e : k = l.length := by omega
    subst e
    rw [List.take_length] at hown
    exact ⟨RdL.of_own Br.c_len hown, hB⟩

set_option maxRecDepth 100000 in
set_option maxHeartbeats 1000000 in
theorem same_ret (u v : Value) (l m : List Br) (w : World) (hl : RdL w 3 Br.c u l) (hm : RdL w 3 Br.c v m) (hlen : l.length ≤ 1000) (hlen2 : m.length ≤ 1000) :
    Ret Try.prog 17 [u, v] w (fun v w' => v = .bool (decide (l = m)) ∧ Ex w w') := by
  have hB0 : Ex w w := Ex.rfl_ _
  refine Ret.of Try.func17 rfl Try.ntmps17 rfl ?_
  refine CW.seq ?_
  refine CW.region ?_
  refine RG.vl rfl rfl rfl (Ev.assign rfl rfl) ?_
  refine RG.done ?_
  refine QW.then_ ?_
  refine CW.seq ?_
  refine CW.seq ?_
  refine CW.region ?_
  refine RG.vl rfl rfl rfl (Ev.move rfl rfl) ?_
  refine RG.vl rfl rfl rfl (Ev.lenL rfl rfl rfl Try.underlying24 (hl)) ?_
  refine RG.vl rfl rfl rfl (Ev.move rfl rfl) ?_
  refine RG.vl rfl rfl rfl (Ev.lenL rfl rfl rfl Try.underlying24 (hm)) ?_
  refine RG.vl rfl rfl rfl (Ev.neI rfl rfl rfl) ?_
  refine RG.done ?_
  refine QW.then_ ?_
  refine CW.condP rfl (fun hc1 => ?_) (fun hc1 => ?_)
  · refine CW.seq ?_
    refine CW.region ?_
    refine RG.vl rfl rfl rfl (Ev.assign rfl rfl) ?_
    refine RG.done ?_
    refine QW.then_ ?_
    refine CW.ret ?_
    refine QW.thenRet ?_
    refine QW.ret1 rfl rfl ?_
    have hB := hB0
    refine ⟨congrArg Value.bool ?_, hB⟩; rw [eq_comm, decide_eq_false_iff_not]; rintro rfl; omega
  · refine CW.skip ?_
    refine QW.then_ ?_
    refine CW.seq ?_
    refine CW.seq ?_
    refine CW.region ?_
    refine RG.vl rfl rfl rfl (Ev.move rfl rfl) ?_
    refine RG.vl rfl rfl rfl (Ev.lenL rfl rfl rfl Try.underlying24 (hl)) ?_
    refine RG.vl rfl rfl rfl (Ev.move rfl rfl) ?_
    refine RG.done ?_
    refine QW.then_ ?_
    refine CW.block ?_
    refine CW.loop1 [(0, _), (1, _), (12, _)] ⟨rfl, rfl, rfl, trivial⟩ (fun (k : Nat) => [(13, .int .i64 k)]) (fun k w' => (k ≤ l.length ∧ l.length = m.length ∧ ∀ j, j < k → l[j]? = m[j]?) ∧ Ex w w') (fun k => l.length - k) (0) ⟨rfl, trivial⟩ ⟨⟨Nat.zero_le _, by omega, fun j h => absurd h (by omega)⟩, hB0⟩ ?_
    rintro k wl2 ⟨⟨hkl, hlm, heq⟩, hxwl2⟩
    refine CW.sub (S' := [(13, _), (0, _), (1, _), (12, _)]) ⟨rfl, rfl, rfl, rfl, trivial⟩ ?_
    refine CW.seq ?_
    refine CW.region ?_
    refine RG.vl rfl rfl rfl (Ev.lss rfl rfl rfl) ?_
    refine RG.done ?_
    refine QW.then_ ?_
    refine CW.seq ?_
    refine CW.condP rfl (fun hc3 => ?_) (fun hc3 => ?_)
    · refine CW.skip ?_
      refine QW.then_ ?_
      refine CW.seq ?_
      refine CW.block ?_
      refine CW.seq ?_
      obtain ⟨b, hk⟩ : ∃ b, l[k]? = some b := ⟨l[k]'(by omega), List.getElem?_eq_getElem _⟩
      obtain ⟨b', hk2⟩ : ∃ b', m[k]? = some b' := ⟨m[k]'(by omega), List.getElem?_eq_getElem _⟩
      refine CW.region ?_
      refine RG.vl rfl rfl rfl (Ev.move rfl rfl) ?_
      refine RG.vl rfl rfl rfl (Ev.assign rfl rfl) ?_
      refine RG.done ?_
      refine QW.then_ ?_
      refine CW.seq ?_
      refine CW.draw [] (.ex) 9 rfl mixed (fun wd4 hxwd4 => ?_)
      replace hxwl2 := Ex.tr hxwl2 hxwd4
      have hE5 := hxwd4
      refine AG.takeW 0 rfl (by kernel_rfl) (by kernel_rfl) rfl rfl rfl (fun _ => Ev.move rfl rfl) ?_
      refine AG.takeW 1 rfl (by kernel_rfl) (by kernel_rfl) rfl rfl rfl (fun _ => Ev.move rfl rfl) ?_
      refine AG.idxL _ 2 rfl (by kernel_rfl) (by kernel_rfl) rfl rfl rfl rfl rfl rfl Try.underlying24 sz_48 ((hl.ext hxwl2)) (hk) (fun p6 hp6b hp6 => ?_)
      refine AG.take 3 rfl (by kernel_rfl) (by kernel_rfl) rfl rfl rfl (fun wq hq => Ev.ldAgg rfl rfl Try.underlying48 rfl sz_48 rfl (hp6.ext hq hp6b)) ?_
      refine AG.takeW 4 rfl (by kernel_rfl) (by kernel_rfl) rfl rfl rfl (fun _ => Ev.move rfl rfl) ?_
      refine AG.takeW 5 rfl (by kernel_rfl) (by kernel_rfl) rfl rfl rfl (fun _ => Ev.move rfl rfl) ?_
      refine AG.idxL _ 6 rfl (by kernel_rfl) (by kernel_rfl) rfl rfl rfl rfl rfl rfl Try.underlying24 sz_48 ((hm.ext hxwl2)) (hk2) (fun p7 hp7b hp7 => ?_)
      refine AG.take 7 rfl (by kernel_rfl) (by kernel_rfl) rfl rfl rfl (fun wq hq => Ev.ldAgg rfl rfl Try.underlying48 rfl sz_48 rfl (hp7.ext hq hp7b)) ?_
      refine AG.takeW 8 rfl (by kernel_rfl) (by kernel_rfl) rfl rfl rfl (fun _ => (Ev.neA rfl rfl rfl (by kernel_rfl)).conv (congrArg Value.bool (show (!veqs b.c b'.c) = decide (b ≠ b') from by cases b; cases b'; simp [veqs, veq, Br.mk.injEq]))) ?_
      refine AG.done (by kernel_rfl) ?_
      refine QW.then_ ?_
      refine CW.condP rfl (fun hc8 => ?_) (fun hc8 => ?_)
      · refine CW.seq ?_
        refine CW.region ?_
        refine RG.vl rfl rfl rfl (Ev.assign rfl rfl) ?_
        refine RG.done ?_
        refine QW.then_ ?_
        refine CW.ret ?_
        refine QW.blockR ?_
        refine QW.thenRet ?_
        refine QW.thenRet ?_
        refine QW.blockR ?_
        refine QW.thenRet ?_
        refine QW.ret1 rfl rfl ?_
        have hB := (Ex.tr hB0 hxwl2)
        refine ⟨congrArg Value.bool ?_, hB⟩; rw [eq_comm, decide_eq_false_iff_not]; rintro rfl; rw [hk] at hk2; injection hk2 with hk2; exact absurd hk2 (by assumption)
      · refine CW.skip ?_
        refine QW.blockN ?_
        refine QW.then_ ?_
        refine CW.region ?_
        refine RG.vl rfl rfl rfl (Ev.addI rfl rfl rfl (by omega)) ?_
        refine RG.vl rfl rfl rfl (Ev.move rfl rfl) ?_
        refine RG.done ?_
        refine QW.sub (S' := [(0, _), (1, _), (12, _), (13, _)]) ⟨rfl, rfl, rfl, rfl, trivial⟩ ?_
        refine QW.round1 (k + 1) ⟨rfl, trivial⟩ ⟨rfl, rfl, rfl, trivial⟩ ⟨⟨by omega, hlm, fun j hj => by rcases Nat.lt_or_ge j k with h | h; exact heq j h; obtain rfl : j = k := (by omega); rw [hk, hk2]; congr 1; exact Decidable.not_not.1 (by assumption)⟩, (Ex.tr hB0 hxwl2)⟩ (by omega)
    · refine CW.exit ?_
      refine QW.thenExit ?_
      refine QW.thenExit ?_
      refine QW.blockHit ?_
      refine QW.then_ ?_
      refine CW.seq ?_
      refine CW.region ?_
      refine RG.vl rfl rfl rfl (Ev.assign rfl rfl) ?_
      refine RG.done ?_
      refine QW.then_ ?_
      refine CW.ret ?_
      refine QW.ret1 rfl rfl ?_
      have hB := (Ex.tr hB0 hxwl2)
      refine ⟨congrArg Value.bool ?_, hB⟩; rw [eq_comm, decide_eq_true_iff]; refine List.ext_getElem? fun j => ?_; rcases Nat.lt_or_ge j l.length with h | h; exact heq j (by omega); rw [List.getElem?_eq_none h, List.getElem?_eq_none (by omega)]

end Go.Proofs.Ytnecppiamecemaa
