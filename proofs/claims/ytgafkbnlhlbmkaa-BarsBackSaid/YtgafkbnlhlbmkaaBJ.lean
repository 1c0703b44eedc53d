/- Walks (BJ). Written by program. -/
import Derived.Test.YtgafkbnlhlbmkaaT
import Derived.Test.YtgafkbnlhlbmkaaBI
import Derived.Test.YtgafkbnlhlbmkaaBU
namespace Go.Proofs.Ytgafkbnlhlbmkaa
open Go.RowKit
set_option maxRecDepth 100000 in
set_option maxHeartbeats 1000000 in
theorem written_ret (u : Value) (l : List UInt8) (w : World) (hl : RdL w 1 encB u l) :
    Ret Try.prog 16 [u] w (fun v w' => v = .string ⟨(wrL l).toArray⟩ ∧ Ex w w') := by
  obtain ⟨uA, uC, rfl⟩ := hl.shape
  have hB0 : Ex w w := Ex.rfl_ _
  refine Ret.of Try.func16 rfl Try.ntmps16 rfl ?_
  refine CW.seq ?_
  refine CW.region ?_
  refine RG.vl rfl rfl rfl (Ev.assign rfl rfl) ?_
  refine RG.done ?_
  refine QW.then_ ?_
  refine CW.seq ?_
  refine CW.region ?_
  refine RG.vl rfl rfl rfl (Ev.assign rfl rfl) ?_
  refine RG.done ?_
  refine QW.then_ ?_
  refine CW.seq ?_
  refine CW.seq ?_
  refine CW.region ?_
  refine RG.vl rfl rfl rfl (Ev.move rfl rfl) ?_
  refine RG.vl rfl rfl rfl (Ev.move rfl rfl) ?_
  refine RG.vl rfl rfl rfl (Ev.lenL rfl rfl rfl Try.underlying22 (hl)) ?_
  refine RG.vl rfl rfl rfl ((Ev.min2 rfl rfl rfl rfl).conv (congrArg (Value.int .i64) (show min ((l.length : Nat) : Int) 190 = ((min l.length 190 : Nat) : Int) by omega))) ?_
  refine RG.sliceL (L := 0) (H := min l.length 190) _ rfl rfl rfl rfl rfl Try.underlying22 sz_5 (hl) (.inl ⟨rfl, rfl⟩) (.inr ⟨_, _, _, rfl, rfl, by omega⟩) (by omega) (by omega) (fun v1 hrv1 => ?_)
  rw [take_min] at hrv1
  have hTl : (l.take 190).length ≤ 190 := by rw [List.length_take]; omega
  unfold wrL
  generalize l.take 190 = T at *
  refine RG.vl rfl rfl rfl (Ev.lenL rfl rfl rfl Try.underlying22 (hrv1)) ?_
  refine RG.vl rfl rfl rfl (Ev.move rfl rfl) ?_
  refine RG.done ?_
  refine QW.then_ ?_
  refine CW.block ?_
  refine CW.loop1 [(2, _), (10, _), (11, _)] ⟨rfl, rfl, rfl, trivial⟩ (fun (i : Nat) => [(12, .int .i64 (i : Int)), (3, .string ⟨((T.take i).map w5).toArray⟩)]) (fun i w' => (i ≤ T.length) ∧ Ex w w') (fun i => T.length - i) (0) ⟨rfl, rfl, trivial⟩ ⟨Nat.zero_le _, hB0⟩ ?_
  rintro i wl2 ⟨hi, hxwl2⟩
  refine CW.sub (S' := [(12, _), (3, _), (2, _), (10, _), (11, _)]) ⟨rfl, rfl, rfl, rfl, rfl, trivial⟩ ?_
  refine CW.seq ?_
  refine CW.region ?_
  refine RG.vl rfl rfl rfl (Ev.lss rfl rfl rfl) ?_
  refine RG.done ?_
  refine QW.then_ ?_
  refine CW.seq ?_
  refine CW.condP rfl (fun hc3 => ?_) (fun hc3 => ?_)
  · refine CW.skip ?_
    refine QW.then_ ?_
    refine CW.seq ?_
    refine CW.block ?_
    refine CW.seq ?_
    obtain ⟨x, hx⟩ : ∃ x, T[i]? = some x := ⟨_, List.getElem?_eq_getElem (by omega)⟩
    have hx8 := x.toNat_lt
    refine CW.region ?_
    refine RG.idxL rfl rfl rfl rfl rfl rfl Try.underlying22 sz_5 ((hrv1.ext hxwl2)) (hx) (fun p4 hp4b hp4 => ?_)
    refine RG.vl rfl rfl rfl (Ev.ld0 rfl rfl Try.underlying5 rfl (hp4) (rfl)) ?_
    refine RG.vl rfl rfl rfl (Ev.assign rfl rfl) ?_
    refine RG.done ?_
    refine QW.then_ ?_
    refine CW.region ?_
    refine RG.vl rfl rfl rfl (Ev.move rfl rfl) ?_
    refine RG.vl rfl rfl rfl (Ev.move rfl rfl) ?_
    refine RG.vl rfl rfl rfl ((Ev.rem8 rfl rfl rfl (by omega)).conv (congrArg (Value.int .u8) (show (x.toNat : Int) % 5 = ((x.toNat % 5 : Nat) : Int) by omega))) ?_
    refine RG.vl rfl rfl rfl (Ev.move rfl rfl) ?_
    refine RG.vl rfl rfl rfl ((Ev.rem8 rfl rfl rfl (by omega)).conv (congrArg (Value.int .u8) (show (x.toNat : Int) % 5 = ((x.toNat % 5 : Nat) : Int) by omega))) ?_
    refine RG.vl rfl rfl rfl ((Ev.add8 rfl rfl rfl (by omega)).conv (congrArg (Value.int .u8) (show ((x.toNat % 5 : Nat) : Int) + 1 = ((x.toNat % 5 + 1 : Nat) : Int) by omega))) ?_
    refine RG.vl rfl rfl rfl ((Ev.cutStrK (k1 := .u8) (k2 := .u8) (i := x.toNat % 5) (j := x.toNat % 5 + 1) rfl rfl Try.underlying9 rfl rfl (by omega) (by show _ ≤ 5; omega)).conv (congrArg Value.string ((bx_cut s5 _ _).trans (by rw [s5_cut (by omega)])))) ?_
    refine RG.vl rfl rfl rfl ((Ev.cat rfl rfl rfl (by rw [sb_len, sb_len, List.length_map, List.length_take]; show _ + 1 ≤ _; omega)).conv (congrArg Value.string (show _ = (⟨((T.take (i + 1)).map w5).toArray⟩ : ByteArray) by rw [bx_cat, w5_more hx]; rfl))) ?_
    refine RG.vl rfl rfl rfl (Ev.assign rfl rfl) ?_
    refine RG.done ?_
    refine QW.blockN ?_
    refine QW.then_ ?_
    refine CW.region ?_
    refine RG.vl rfl rfl rfl (Ev.addI rfl rfl rfl (by omega)) ?_
    refine RG.vl rfl rfl rfl (Ev.move rfl rfl) ?_
    refine RG.done ?_
    refine QW.sub (S' := [(2, _), (3, _), (10, _), (11, _), (12, _)]) ⟨rfl, rfl, rfl, rfl, rfl, trivial⟩ ?_
    refine QW.round1 (i + 1) ⟨rfl, rfl, trivial⟩ ⟨rfl, rfl, rfl, trivial⟩ ⟨by omega, (Ex.tr hB0 hxwl2)⟩ (by omega)
  · refine CW.exit ?_
    refine QW.thenExit ?_
    refine QW.thenExit ?_
    refine QW.blockHit ?_
    refine QW.then_ ?_
    refine CW.seq ?_
    refine CW.region ?_
    refine RG.vl rfl rfl rfl (Ev.move rfl rfl) ?_
    refine RG.vl rfl rfl rfl (Ev.assign rfl rfl) ?_
    refine RG.done ?_
    refine QW.then_ ?_
    refine CW.ret ?_
    refine QW.ret1 rfl rfl ?_
    have hB := (Ex.tr hB0 hxwl2)
    obtain rfl : i = T.length := by omega
    rw [List.take_length]
    exact ⟨rfl, hB⟩

end Go.Proofs.Ytgafkbnlhlbmkaa
