/- Walks (BB). Written by program. -/
import Derived.Test.YtgafkbnlhlbmkaaT
import Derived.Test.YtgafkbnlhlbmkaaBA
namespace Go.Proofs.Ytgafkbnlhlbmkaa
open Go.RowKit
set_option maxRecDepth 100000 in
set_option maxHeartbeats 1000000 in
theorem check_ret (t : List UInt8) (m : Nat) (w : World) (hm : m ≤ 100) :
    Ret Try.prog 30 [.string ⟨t.toArray⟩, .int .i64 (m : Int)] w (fun v w' => v = .int .i64 (errB m t) ∧ Ex w w') := by
  have hts := sb_len t
  have hB0 : Ex w w := Ex.rfl_ _
  refine Ret.of Try.func30 rfl Try.ntmps30 rfl ?_
  refine CW.seq ?_
  refine CW.region ?_
  refine RG.vl rfl rfl rfl (Ev.assign rfl rfl) ?_
  refine RG.done ?_
  refine QW.then_ ?_
  refine CW.seq ?_
  refine CW.seq ?_
  refine CW.region ?_
  refine RG.vl rfl rfl rfl (Ev.move rfl rfl) ?_
  refine RG.vl rfl rfl rfl (Ev.lenStr rfl rfl rfl Try.underlying9) ?_
  refine RG.vl rfl rfl rfl (Ev.move rfl rfl) ?_
  refine RG.vl rfl rfl rfl (Ev.subI rfl rfl rfl (by omega)) ?_
  refine RG.vl rfl rfl rfl (Ev.gtr rfl rfl rfl) ?_
  refine RG.done ?_
  refine QW.then_ ?_
  refine CW.condP rfl (fun hc1 => ?_) (fun hc1 => ?_)
  · refine CW.seq ?_
    refine CW.region ?_
    refine RG.vl rfl rfl rfl (Ev.assign rfl rfl) ?_
    refine RG.done ?_
    refine QW.then_ ?_
    refine CW.ret ?_
    refine QW.thenRet ?_
    refine QW.ret1 rfl rfl ?_
    have hB := hB0
    exact ⟨by rw [errB_long (by omega)], hB⟩
  · refine CW.skip ?_
    refine QW.then_ ?_
    refine CW.seq ?_
    refine CW.seq ?_
    refine CW.region ?_
    refine RG.vl rfl rfl rfl (Ev.move rfl rfl) ?_
    refine RG.sRange rfl rfl rfl rfl rfl Try.underlying9 (fun gi w2 egi hx2 hb2 => ?_)
    have hle3 : w.heap.size ≤ gi := by have := (Ex.rfl_ w).size; omega
    have hE4 := hx2
    refine RG.done ?_
    refine QW.then_ ?_
    refine CW.block ?_
    refine CW.loop1 [(13, _)] ⟨rfl, trivial⟩ (fun (i : Nat) => []) (fun i w' => (i ≤ t.length ∧ (t.take i).all isL = true ∧ Si w' gi ⟨t.toArray⟩ i) ∧ Ex w w') (fun i => t.length - i) (0) trivial ⟨⟨by omega, rfl, hb2⟩, (Ex.tr hB0 hE4)⟩ ?_
    rintro i wl5 ⟨⟨hi, hall, hsi⟩, hxwl5⟩
    refine CW.sub (S' := [(13, _)]) ⟨rfl, trivial⟩ ?_
    refine CW.seq ?_
    refine CW.region ?_
    refine RG.sNext rfl rfl rfl rfl rfl hsi (fun hend => ?_) (fun wn6 hpos hwn6 hiwn6 => ?_)
    · refine RG.vl rfl rfl rfl (Ev.extract rfl rfl rfl) ?_
      refine RG.done ?_
      refine QW.then_ ?_
      refine CW.seq ?_
      refine CW.condF rfl ?_
      refine CW.exit ?_
      refine QW.thenExit ?_
      refine QW.thenExit ?_
      refine QW.blockHit ?_
      refine QW.then_ ?_
      refine CW.seq ?_
      refine CW.region ?_
      refine RG.vl rfl rfl rfl (Ev.assign rfl rfl) ?_
      refine RG.done ?_
      refine QW.then_ ?_
      refine CW.ret ?_
      refine QW.ret1 rfl rfl ?_
      have hB := (Ex.tr hB0 hxwl5)
      obtain rfl : i = t.length := by rw [sb_len] at hend; omega
      rw [List.take_length] at hall
      exact ⟨by rw [errB_ok (by omega) hall], hB⟩
    · replace hxwl5 := Wr.below hxwl5 hwn6 hle3
      refine RG.vl rfl rfl rfl (Ev.extract rfl rfl rfl) ?_
      refine RG.done ?_
      refine QW.then_ ?_
      refine CW.seq ?_
      refine CW.condT rfl ?_
      refine CW.skip ?_
      refine QW.then_ ?_
      refine CW.block ?_
      refine CW.seq ?_
      obtain ⟨c, hc⟩ : ∃ c, t[i]? = some c := ⟨_, List.getElem?_eq_getElem (by rw [sb_len] at hpos; exact hpos)⟩
      have hii := (List.getElem?_eq_some_iff.1 hc).1
      rcases Nat.lt_or_ge c.toNat 128 with hlo | hhi
      · rw [dec_lo hc hlo] at hiwn6 ⊢
        have hix := idx_s4 c.toNat hlo
        refine CW.region ?_
        refine RG.vl rfl rfl rfl (Ev.extract rfl rfl rfl) ?_
        refine RG.vl rfl rfl rfl (Ev.assign rfl rfl) ?_
        refine RG.done ?_
        refine QW.then_ ?_
        refine CW.seq ?_
        refine CW.region ?_
        refine RG.vl rfl rfl rfl (Ev.move rfl rfl) ?_
        refine RG.vl rfl rfl rfl (Ev.neI rfl rfl rfl) ?_
        refine RG.vl rfl rfl rfl (Ev.move rfl rfl) ?_
        refine RG.split (d := 19) rfl (fun hg7 => ?_) (fun hg7 => ?_)
        · refine RG.vl rfl rfl rfl (Ev.move rfl rfl) ?_
          refine RG.call rfl rfl rfl rfl rfl rfl rfl en_31 (con_ret s4 c.toNat _ hlo) ?_
          rintro _ w8 ⟨rfl, hx8⟩
          replace hxwl5 := Ex.tr hxwl5 hx8
          have hE9 := hx8
          refine RG.vl rfl rfl rfl (Ev.notP rfl rfl) ?_
          refine RG.vl rfl rfl rfl (Ev.pickT rfl rfl rfl) ?_
          refine RG.done ?_
          refine QW.then_ ?_
          refine CW.condP rfl (fun hc10 => ?_) (fun hc10 => ?_)
          · refine CW.seq ?_
            refine CW.region ?_
            refine RG.vl rfl rfl rfl (Ev.assign rfl rfl) ?_
            refine RG.done ?_
            refine QW.then_ ?_
            refine CW.ret ?_
            refine QW.blockR ?_
            refine QW.thenRet ?_
            refine QW.blockR ?_
            refine QW.thenRet ?_
            refine QW.ret1 rfl rfl ?_
            have hB := (Ex.tr hB0 hxwl5)
            exact ⟨by rw [errB_bad (by omega) (all_not hc (isL_no (by omega) (by omega)))], hB⟩
          · refine CW.skip ?_
            refine QW.blockN ?_
            refine QW.round1 (i + 1) trivial ⟨rfl, trivial⟩ ⟨⟨by omega, all_take hc hall (isL_yes (by omega)), (hiwn6.ext hE9)⟩, (Ex.tr hB0 hxwl5)⟩ (by omega)
        · refine RG.pass rfl rfl rfl ?_
          refine RG.pass rfl rfl rfl ?_
          refine RG.pass rfl rfl rfl ?_
          refine RG.vl rfl rfl rfl (Ev.pickF rfl rfl rfl) ?_
          refine RG.done ?_
          refine QW.then_ ?_
          refine CW.condF rfl ?_
          refine CW.skip ?_
          refine QW.blockN ?_
          refine QW.round1 (i + 1) trivial ⟨rfl, trivial⟩ ⟨⟨by omega, all_take hc hall (isL_yes (by omega)), hiwn6⟩, (Ex.tr hB0 hxwl5)⟩ (by omega)
      · obtain ⟨hd1, hd2⟩ := dec_hi hc hhi
        generalize Utf8.decode (⟨t.toArray⟩ : ByteArray) i = D at *
        refine CW.region ?_
        refine RG.vl rfl rfl rfl (Ev.extract rfl rfl rfl) ?_
        refine RG.vl rfl rfl rfl (Ev.assign rfl rfl) ?_
        refine RG.done ?_
        refine QW.then_ ?_
        refine CW.seq ?_
        refine CW.region ?_
        refine RG.vl rfl rfl rfl (Ev.move rfl rfl) ?_
        refine RG.vl rfl rfl rfl (Ev.isT (Ev.neI rfl rfl rfl) (by omega)) ?_
        refine RG.vl rfl rfl rfl (Ev.move rfl rfl) ?_
        refine RG.vl rfl rfl rfl (Ev.move rfl rfl) ?_
        refine RG.call rfl rfl rfl rfl rfl rfl rfl en_31 (conh_ret D.1 _ hd1) ?_
        rintro _ w11 ⟨rfl, hx11⟩
        replace hxwl5 := Ex.tr hxwl5 hx11
        have hE12 := hx11
        refine RG.vl rfl rfl rfl (Ev.notT rfl rfl) ?_
        refine RG.vl rfl rfl rfl (Ev.pickT rfl rfl rfl) ?_
        refine RG.done ?_
        refine QW.then_ ?_
        refine CW.condT rfl ?_
        refine CW.seq ?_
        refine CW.region ?_
        refine RG.vl rfl rfl rfl (Ev.assign rfl rfl) ?_
        refine RG.done ?_
        refine QW.then_ ?_
        refine CW.ret ?_
        refine QW.blockR ?_
        refine QW.thenRet ?_
        refine QW.blockR ?_
        refine QW.thenRet ?_
        refine QW.ret1 rfl rfl ?_
        have hB := (Ex.tr hB0 hxwl5)
        exact ⟨by rw [errB_bad (by omega) (all_not hc (isL_no (by omega) (by omega)))], hB⟩

end Go.Proofs.Ytgafkbnlhlbmkaa
