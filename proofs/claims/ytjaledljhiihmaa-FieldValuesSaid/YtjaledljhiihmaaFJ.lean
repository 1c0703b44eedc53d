/- Walks (FJ). Written by program. -/
import Derived.Test.YtjaledljhiihmaaT
import Derived.Test.YtjaledljhiihmaaFZ
namespace Go.Proofs.Ytjaledljhiihmaa
open Go.RowKit
set_option maxRecDepth 100000 in
set_option maxHeartbeats 1000000 in
theorem elements_ret (u : Value) (l : List Nat) (m : Nat) (w : World) (hl : RdL w 1 encN u l) (hb : ∀ c ∈ l, c < 256) (hm : m ≤ 1000) :
    Ret Try.prog 34 [u, .int .i64 (m : Int)] w (fun v w' => Own w' w.heap.size 5 1 encN v (elsOf l m) ∧ Ex w w') := by
  have hB0 : Ex w w := Ex.rfl_ _
  refine Ret.of Try.func34 rfl Try.ntmps34 rfl ?_
  refine CW.seq ?_
  refine CW.region ?_
  refine RG.vl rfl rfl rfl (Ev.assign rfl rfl) ?_
  refine RG.done ?_
  refine QW.then_ ?_
  refine CW.seq ?_
  refine CW.region ?_
  refine RG.vl rfl rfl rfl (Ev.assign rfl rfl) ?_
  refine RG.done ?_
  refine QW.then_ ?_
  refine CW.seq ?_
  refine CW.seq ?_
  refine CW.region ?_
  refine RG.vl rfl rfl rfl (Ev.move rfl rfl) ?_
  refine RG.vl rfl rfl rfl (Ev.move rfl rfl) ?_
  refine RG.vl rfl rfl rfl (Ev.lenL rfl rfl rfl Try.underlying39 (hl)) ?_
  refine RG.vl rfl rfl rfl (Ev.move rfl rfl) ?_
  refine RG.vl rfl rfl rfl ((Ev.min2 rfl rfl rfl rfl).conv (congrArg (Value.int .i64) (show min (l.length : Int) (m : Int) = ((min l.length m : Nat) : Int) by omega))) ?_
  refine RG.sliceL (L := 0) (H := min l.length m) _ rfl rfl rfl rfl rfl Try.underlying39 sz_5 (hl) (.inl ⟨rfl, rfl⟩) (.inr ⟨_, _, _, rfl, rfl, by omega⟩) (by omega) (by omega) (fun v1 hrv1 => ?_)
  refine RG.vl rfl rfl rfl (Ev.lenL rfl rfl rfl Try.underlying39 (hrv1)) ?_
  refine RG.vl rfl rfl rfl (Ev.move rfl rfl) ?_
  refine RG.done ?_
  refine QW.then_ ?_
  refine CW.block ?_
  refine CW.loop2 [(4, _), (13, _), (14, _)] ⟨rfl, rfl, rfl, trivial⟩ (fun (k : Nat) (u : Value) => [(15, .int .i64 k), (5, u)]) (fun k u w' => (k ≤ min l.length m ∧ Own w' w.heap.size 5 1 encN u (elsOf l k)) ∧ Ex w w') (fun k u => min l.length m - k) (0) (.slice none 0 0) ⟨rfl, rfl, trivial⟩ ⟨⟨Nat.zero_le _, Own.nil_ _ _ _ _ _⟩, hB0⟩ ?_
  rintro k u wl2 ⟨⟨hk, hown⟩, hxwl2⟩
  refine CW.sub (S' := [(15, _), (5, _), (4, _), (13, _), (14, _)]) ⟨rfl, rfl, rfl, rfl, rfl, trivial⟩ ?_
  have htl : ((l.take (min l.length m)).drop 0).length = min l.length m := by rw [List.length_drop, List.length_take]; omega
  refine CW.seq ?_
  refine CW.region ?_
  refine RG.vl rfl rfl rfl (Ev.lss rfl rfl rfl) ?_
  refine RG.done ?_
  refine QW.then_ ?_
  refine CW.seq ?_
  refine CW.condP rfl (fun hc3 => ?_) (fun hc3 => ?_)
  · refine CW.skip ?_
    refine QW.then_ ?_
    refine CW.seq ?_
    refine CW.block ?_
    refine CW.seq ?_
    obtain ⟨c, hc⟩ : ∃ c, l[k]? = some c := ⟨_, List.getElem?_eq_getElem (by omega)⟩
    have hc' : ((l.take (min l.length m)).drop 0)[k]? = some c := by rw [List.getElem?_drop, List.getElem?_take, Nat.zero_add, if_pos (by omega)]; exact hc
    have hc256 := hb c (List.mem_of_getElem? hc)
    have hel := elsOf_len l k
    have h1l : [c % 64].length = 1 := rfl
    refine CW.region ?_
    refine RG.idxL rfl rfl rfl rfl rfl rfl Try.underlying39 sz_5 ((hrv1.ext hxwl2)) (hc') (fun p4 hp4b hp4 => ?_)
    refine RG.vl rfl rfl rfl (Ev.ld0 rfl rfl Try.underlying5 rfl (hp4) (rfl)) ?_
    refine RG.vl rfl rfl rfl (Ev.assign rfl rfl) ?_
    refine RG.done ?_
    refine QW.then_ ?_
    refine CW.region ?_
    refine RG.vl rfl rfl rfl (Ev.move rfl rfl) ?_
    refine RG.vl rfl rfl rfl (Ev.move rfl rfl) ?_
    refine RG.vl rfl rfl rfl ((Ev.rem8 rfl rfl rfl (by omega)).conv (congrArg (Value.int .u8) (show (c : Int) % 64 = ((c % 64 : Nat) : Int) by omega))) ?_
    refine RG.litO (os := [.tmp 21]) (enc := encN) ([c % 64]) rfl rfl rfl rfl rfl rfl rfl Try.underlying39 inf_5 rfl rfl rfl rfl rfl encN_len rfl rfl (fun v5 wk6 hxwk6 hown7 hnew8 => ?_)
    have hsep9 : Sep v5 _ := Sep.of_new hown hnew8
    replace hxwl2 := Ex.tr hxwl2 hxwk6
    have hE10 := hxwk6
    refine RG.appO rfl rfl rfl rfl rfl rfl rfl Try.underlying39 inf_5 rfl rfl encN_len (fun _ => rfl) (Own.ext hown hE10) ((hown7.rdl encN_len)) (by show _ + 1 ≤ maxLen; simp only [maxLen]; omega) (by show (_ + 1) * _ ≤ _; omega) (hxwl2.size) (fun v11 wa12 hown13 hgr14 hat15 => ?_)
    have hsep17 := Sep.app (Sep.symm hsep9) hown7 hat15
    have hown16 := Own.grown hown7 hgr14 (fun k a b => (Sep.symm hsep9) k b a)
    replace hxwl2 := own_block (Own.ext hown hE10) hxwl2 hgr14 (Nat.le_refl _) hxwl2.size
    refine RG.vl rfl rfl rfl (Ev.assign rfl rfl) ?_
    refine RG.done ?_
    refine QW.blockN ?_
    refine QW.then_ ?_
    refine CW.region ?_
    refine RG.vl rfl rfl rfl (Ev.addI rfl rfl rfl (by omega)) ?_
    refine RG.vl rfl rfl rfl (Ev.move rfl rfl) ?_
    refine RG.done ?_
    refine QW.round2 (k + 1) (v11) ⟨rfl, rfl, trivial⟩ ⟨rfl, rfl, rfl, trivial⟩ ⟨⟨by omega, by rw [elsOf_more hc]; exact hown13⟩, (Ex.tr hB0 hxwl2)⟩ (by omega)
  · refine CW.exit ?_
    refine QW.thenExit ?_
    refine QW.thenExit ?_
    refine QW.blockHit ?_
    refine QW.then_ ?_
    refine CW.seq ?_
    refine CW.region ?_
    refine RG.vl rfl rfl rfl (Ev.move rfl rfl) ?_
    refine RG.vl rfl rfl rfl (Ev.assign rfl rfl) ?_
    refine RG.done ?_
    refine QW.then_ ?_
    refine CW.ret ?_
    refine QW.ret1 rfl rfl ?_
    have hB := (Ex.tr hB0 hxwl2)
    have e : k = min l.length m := by omega
    rw [e, elsOf_min] at hown
    exact ⟨hown.low (by have := hB0.size; omega), hB⟩

end Go.Proofs.Ytjaledljhiihmaa
