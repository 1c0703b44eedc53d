/- Texts put together by program: BP, BR, RH, RN, RO, VB, VC, VE. -/
import Derived.Test.YtgjnchjkjdnidaaGreatMBarcodeScans5
/- Walks (BP). Written by program. -/
namespace Go.Proofs.YtgjnchjkjdnidaaGreat
open Go.RowKit
set_option maxRecDepth 100000 in
set_option maxHeartbeats 1000000 in
theorem rframed_ret (t : List UInt8) (w : World) (hlen : t.length ≤ 100000) :
  Ret Tryz.prog 73 [.string ⟨t.toArray⟩] w (fun v w' => v = .bool (framed t) ∧ Ex w w') := by
 have hts := sb_len t
 have hB0 : Ex w w := Ex.rfl_ _
 refine Ret.of Tryz.func73 rfl Tryz.ntmps73 rfl ?_
 refine CW.seq (CW.region ?_)
 refine RG.vl rfl rfl rfl (Ev.assign rfl rfl) ?_
 refine RG.done (QW.then_ (CW.seq (CW.region ?_)))
 refine RG.vl rfl rfl rfl (Ev.move rfl rfl) ?_
 refine RG.vl rfl rfl rfl (Ev.lenStr rfl rfl rfl Tryz.underlying9) ?_
 refine RG.vl rfl rfl rfl (Ev.assign rfl rfl) ?_
 refine RG.done (QW.then_ (CW.seq ?_))
 rcases Nat.lt_or_ge t.length 4 with h4 | h4
 ·refine CW.region ?_
  refine RG.vl rfl rfl rfl (Ev.move rfl rfl) ?_
  refine RG.vl rfl rfl rfl (Ev.isF (Ev.geq rfl rfl rfl) (by omega)) ?_
  refine RG.vl rfl rfl rfl (Ev.move rfl rfl) ?_
  refine RG.pass rfl rfl rfl ?_
  refine RG.pass rfl rfl rfl ?_
  refine RG.pass rfl rfl rfl ?_
  refine RG.vl rfl rfl rfl (Ev.pickF rfl rfl rfl) ?_
  refine RG.vl rfl rfl rfl (Ev.move rfl rfl) ?_
  refine RG.pass rfl rfl rfl ?_
  refine RG.pass rfl rfl rfl ?_
  refine RG.pass rfl rfl rfl ?_
  refine RG.vl rfl rfl rfl (Ev.pickF rfl rfl rfl) ?_
  refine RG.vl rfl rfl rfl (Ev.move rfl rfl) ?_
  refine RG.pass rfl rfl rfl ?_
  refine RG.pass rfl rfl rfl ?_
  refine RG.pass rfl rfl rfl ?_
  refine RG.pass rfl rfl rfl ?_
  refine RG.pass rfl rfl rfl ?_
  refine RG.vl rfl rfl rfl (Ev.pickF rfl rfl rfl) ?_
  refine RG.vl rfl rfl rfl (Ev.move rfl rfl) ?_
  refine RG.pass rfl rfl rfl ?_
  refine RG.pass rfl rfl rfl ?_
  refine RG.pass rfl rfl rfl ?_
  refine RG.pass rfl rfl rfl ?_
  refine RG.pass rfl rfl rfl ?_
  refine RG.vl rfl rfl rfl (Ev.pickF rfl rfl rfl) ?_
  refine RG.vl rfl rfl rfl (Ev.assign rfl rfl) ?_
  refine RG.done ?_
  refine QW.sub (S' := [(2, _)]) ⟨rfl, trivial⟩ ?_
  refine QW.then_ (CW.ret ?_)
  refine QW.ret1 rfl rfl ?_
  have hB := hB0
  exact ⟨congrArg Value.bool (framed_no (.inl h4)).symm, hB⟩
 ·obtain ⟨a, ha⟩ : ∃ x, t[0]? = some x := ⟨_, List.getElem?_eq_getElem (by omega)⟩
  obtain ⟨b, hb⟩ : ∃ x, t[1]? = some x := ⟨_, List.getElem?_eq_getElem (by omega)⟩
  obtain ⟨c, hc⟩ : ∃ x, t[t.length - 2]? = some x := ⟨_, List.getElem?_eq_getElem (by omega)⟩
  obtain ⟨d, hd⟩ : ∃ x, t[t.length - 1]? = some x := ⟨_, List.getElem?_eq_getElem (by omega)⟩
  have hfd := framed_dec h4 ha hb hc hd
  refine CW.region ?_
  refine RG.vl rfl rfl rfl (Ev.move rfl rfl) ?_
  refine RG.vl rfl rfl rfl (Ev.isT (Ev.geq rfl rfl rfl) (by omega)) ?_
  refine RG.vl rfl rfl rfl (Ev.move rfl rfl) ?_
  refine RG.vl rfl rfl rfl (Ev.move rfl rfl) ?_
  refine RG.vl rfl rfl rfl (Ev.byteAt rfl rfl rfl Tryz.underlying9 (by omega) (ha)) ?_
  refine RG.vl rfl rfl rfl (Ev.eqI rfl rfl rfl) ?_
  refine RG.vl rfl rfl rfl (Ev.pickT rfl rfl rfl) ?_
  refine RG.vl rfl rfl rfl (Ev.move rfl rfl) ?_
  refine RG.split (d := 13) rfl (fun hg1 => ?_) (fun hg1 => ?_)
  ·refine RG.vl rfl rfl rfl (Ev.move rfl rfl) ?_
   refine RG.vl rfl rfl rfl (Ev.byteAt rfl rfl rfl Tryz.underlying9 (by omega) (hb)) ?_
   refine RG.vl rfl rfl rfl (Ev.eqI rfl rfl rfl) ?_
   refine RG.vl rfl rfl rfl (Ev.pickT rfl rfl rfl) ?_
   refine RG.vl rfl rfl rfl (Ev.move rfl rfl) ?_
   refine RG.split (d := 18) rfl (fun hg2 => ?_) (fun hg2 => ?_)
   ·refine RG.vl rfl rfl rfl (Ev.move rfl rfl) ?_
    refine RG.vl rfl rfl rfl (Ev.move rfl rfl) ?_
    refine RG.vl rfl rfl rfl ((Ev.subI rfl rfl rfl (by omega)).conv (congrArg (Value.int .i64) (show (((⟨t.toArray⟩ : ByteArray).size : Nat) : Int) - 2 = ((t.length - 2 : Nat) : Int) by omega))) ?_
    refine RG.vl rfl rfl rfl (Ev.byteAt rfl rfl rfl Tryz.underlying9 (by omega) (hc)) ?_
    refine RG.vl rfl rfl rfl (Ev.eqI rfl rfl rfl) ?_
    refine RG.vl rfl rfl rfl (Ev.pickT rfl rfl rfl) ?_
    refine RG.vl rfl rfl rfl (Ev.move rfl rfl) ?_
    refine RG.split (d := 25) rfl (fun hg3 => ?_) (fun hg3 => ?_)
    ·refine RG.vl rfl rfl rfl (Ev.move rfl rfl) ?_
     refine RG.vl rfl rfl rfl (Ev.move rfl rfl) ?_
     refine RG.vl rfl rfl rfl ((Ev.subI rfl rfl rfl (by omega)).conv (congrArg (Value.int .i64) (show (((⟨t.toArray⟩ : ByteArray).size : Nat) : Int) - 1 = ((t.length - 1 : Nat) : Int) by omega))) ?_
     refine RG.vl rfl rfl rfl (Ev.byteAt rfl rfl rfl Tryz.underlying9 (by omega) (hd)) ?_
     refine RG.vl rfl rfl rfl (Ev.eqI rfl rfl rfl) ?_
     refine RG.vl rfl rfl rfl (Ev.pickT rfl rfl rfl) ?_
     refine RG.vl rfl rfl rfl (Ev.assign rfl rfl) ?_
     refine RG.done ?_
     refine QW.sub (S' := [(2, _)]) ⟨rfl, trivial⟩ ?_
     refine QW.then_ (CW.ret ?_)
     refine QW.ret1 rfl rfl ?_
     have hB := hB0
     exact ⟨congrArg Value.bool (by rw [hfd]; first | (rw [eq_comm, decide_eq_false_iff_not]; omega) | (rw [decide_eq_decide]; omega)), hB⟩
    ·refine RG.pass rfl rfl rfl ?_
     refine RG.pass rfl rfl rfl ?_
     refine RG.pass rfl rfl rfl ?_
     refine RG.pass rfl rfl rfl ?_
     refine RG.pass rfl rfl rfl ?_
     refine RG.vl rfl rfl rfl (Ev.pickF rfl rfl rfl) ?_
     refine RG.vl rfl rfl rfl (Ev.assign rfl rfl) ?_
     refine RG.done ?_
     refine QW.sub (S' := [(2, _)]) ⟨rfl, trivial⟩ ?_
     refine QW.then_ (CW.ret ?_)
     refine QW.ret1 rfl rfl ?_
     have hB := hB0
     exact ⟨congrArg Value.bool (by rw [hfd]; first | (rw [eq_comm, decide_eq_false_iff_not]; omega) | (rw [decide_eq_decide]; omega)), hB⟩
   ·refine RG.pass rfl rfl rfl ?_
    refine RG.pass rfl rfl rfl ?_
    refine RG.pass rfl rfl rfl ?_
    refine RG.pass rfl rfl rfl ?_
    refine RG.pass rfl rfl rfl ?_
    refine RG.vl rfl rfl rfl (Ev.pickF rfl rfl rfl) ?_
    refine RG.vl rfl rfl rfl (Ev.move rfl rfl) ?_
    refine RG.pass rfl rfl rfl ?_
    refine RG.pass rfl rfl rfl ?_
    refine RG.pass rfl rfl rfl ?_
    refine RG.pass rfl rfl rfl ?_
    refine RG.pass rfl rfl rfl ?_
    refine RG.vl rfl rfl rfl (Ev.pickF rfl rfl rfl) ?_
    refine RG.vl rfl rfl rfl (Ev.assign rfl rfl) ?_
    refine RG.done ?_
    refine QW.sub (S' := [(2, _)]) ⟨rfl, trivial⟩ ?_
    refine QW.then_ (CW.ret ?_)
    refine QW.ret1 rfl rfl ?_
    have hB := hB0
    exact ⟨congrArg Value.bool (by rw [hfd]; first | (rw [eq_comm, decide_eq_false_iff_not]; omega) | (rw [decide_eq_decide]; omega)), hB⟩
  ·refine RG.pass rfl rfl rfl ?_
   refine RG.pass rfl rfl rfl ?_
   refine RG.pass rfl rfl rfl ?_
   refine RG.vl rfl rfl rfl (Ev.pickF rfl rfl rfl) ?_
   refine RG.vl rfl rfl rfl (Ev.move rfl rfl) ?_
   refine RG.pass rfl rfl rfl ?_
   refine RG.pass rfl rfl rfl ?_
   refine RG.pass rfl rfl rfl ?_
   refine RG.pass rfl rfl rfl ?_
   refine RG.pass rfl rfl rfl ?_
   refine RG.vl rfl rfl rfl (Ev.pickF rfl rfl rfl) ?_
   refine RG.vl rfl rfl rfl (Ev.move rfl rfl) ?_
   refine RG.pass rfl rfl rfl ?_
   refine RG.pass rfl rfl rfl ?_
   refine RG.pass rfl rfl rfl ?_
   refine RG.pass rfl rfl rfl ?_
   refine RG.pass rfl rfl rfl ?_
   refine RG.vl rfl rfl rfl (Ev.pickF rfl rfl rfl) ?_
   refine RG.vl rfl rfl rfl (Ev.assign rfl rfl) ?_
   refine RG.done ?_
   refine QW.sub (S' := [(2, _)]) ⟨rfl, trivial⟩ ?_
   refine QW.then_ (CW.ret ?_)
   refine QW.ret1 rfl rfl ?_
   have hB := hB0
   exact ⟨congrArg Value.bool (by rw [hfd]; first | (rw [eq_comm, decide_eq_false_iff_not]; omega) | (rw [decide_eq_decide]; omega)), hB⟩

set_option maxRecDepth 100000 in
set_option maxHeartbeats 1000000 in
theorem runf_ret (t : List UInt8) (w : World) (hlen : t.length ≤ 100000) :
  Ret Tryz.prog 33 [.string ⟨t.toArray⟩] w (fun v w' => v = .tuple #[.string ⟨(unframeB t).1.toArray⟩, .bool (unframeB t).2.1, .int .i64 (unframeB t).2.2] ∧ Ex w w') := by
 have hts := sb_len t
 have hB0 : Ex w w := Ex.rfl_ _
 refine Ret.of Tryz.func33 rfl Tryz.ntmps33 rfl ?_
 refine CW.seq (CW.region ?_)
 refine RG.vl rfl rfl rfl (Ev.assign rfl rfl) ?_
 refine RG.vl rfl rfl rfl (Ev.assign rfl rfl) ?_
 refine RG.vl rfl rfl rfl (Ev.assign rfl rfl) ?_
 refine RG.done (QW.then_ (CW.seq (CW.seq (CW.region ?_))))
 refine RG.vl rfl rfl rfl (Ev.move rfl rfl) ?_
 refine RG.call rfl rfl rfl rfl rfl rfl rfl en_72 (berror_ret _ 0 _ (by omega) (by omega)) ?_
 rintro _ w1 ⟨rfl, hx1⟩
 have hE2 := hx1
 refine RG.vl rfl rfl rfl (Ev.assign rfl rfl) ?_
 refine RG.done (QW.then_ (CW.seq (CW.region ?_)))
 refine RG.vl rfl rfl rfl (Ev.move rfl rfl) ?_
 refine RG.vl rfl rfl rfl (Ev.neI rfl rfl rfl) ?_
 refine RG.done (QW.then_ ?_)
 refine CW.condP rfl (fun hc3 => ?_) (fun hc3 => ?_)
 ·refine CW.seq (CW.region ?_)
  refine RG.vl rfl rfl rfl (Ev.move rfl rfl) ?_
  refine RG.vl rfl rfl rfl (Ev.assign rfl rfl) ?_
  refine RG.vl rfl rfl rfl (Ev.assign rfl rfl) ?_
  refine RG.vl rfl rfl rfl (Ev.assign rfl rfl) ?_
  refine RG.done (QW.then_ (CW.ret (QW.thenRet ?_)))
  refine QW.ret3 rfl rfl rfl rfl ?_
  have hB := (Ex.tr hB0 hE2)
  exact ⟨by rw [unf_err (by assumption)], hB⟩
 ·refine CW.skip (QW.then_ (CW.seq (CW.seq ?_)))
  have he0 := Decidable.not_not.1 (show ¬ ¬ errB 0 t = 0 from by assumption)
  have hok := err_ok he0
  have htl := turnL_len t
  have hst := sb_len (turnL t)
  refine CW.region ?_
  refine RG.vl rfl rfl rfl (Ev.move rfl rfl) ?_
  refine RG.call rfl rfl rfl rfl rfl rfl rfl en_73 (rframed_ret _ _ (by first | omega | (rw [turnL_len]; omega))) ?_
  rintro _ w4 ⟨rfl, hx4⟩
  replace hE2 := Ex.tr hE2 hx4
  have hE5 := hx4
  refine RG.done (QW.then_ ?_)
  refine CW.cond rfl (fun hc6 => ?_) (fun hc6 => ?_)
  ·refine CW.seq ?_
   have h4 : 4 ≤ t.length := (framed_at.1 (by assumption)).1
   refine CW.region ?_
   refine RG.vl rfl rfl rfl (Ev.move rfl rfl) ?_
   refine RG.vl rfl rfl rfl (Ev.move rfl rfl) ?_
   refine RG.vl rfl rfl rfl (Ev.lenStr rfl rfl rfl Tryz.underlying9) ?_
   refine RG.vl rfl rfl rfl ((Ev.subI rfl rfl rfl (by omega)).conv (congrArg (Value.int .i64) (show (((⟨t.toArray⟩ : ByteArray).size : Nat) : Int) - 2 = ((t.length - 2 : Nat) : Int) by omega))) ?_
   refine RG.vl rfl rfl rfl ((Ev.cutStr (i := 2) (j := t.length - 2) rfl rfl Tryz.underlying9 rfl rfl (by omega) (by omega)).conv (congrArg Value.string (bx_cut t 2 (t.length - 2)))) ?_
   refine RG.vl rfl rfl rfl (Ev.assign rfl rfl) ?_
   refine RG.vl rfl rfl rfl (Ev.assign rfl rfl) ?_
   refine RG.vl rfl rfl rfl (Ev.assign rfl rfl) ?_
   refine RG.done ?_
   refine QW.sub (S' := [(0, _), (2, _), (3, _), (4, _)]) ⟨rfl, rfl, rfl, rfl, trivial⟩ ?_
   refine QW.then_ (CW.ret (QW.thenRet ?_))
   refine QW.ret3 rfl rfl rfl rfl ?_
   have hB := (Ex.tr hB0 hE2)
   exact ⟨by rw [unf_up he0 (by assumption)]; rfl, hB⟩
  ·refine CW.skip (QW.then_ (CW.seq (CW.seq (CW.region ?_))))
   refine RG.vl rfl rfl rfl (Ev.move rfl rfl) ?_
   refine RG.call rfl rfl rfl rfl rfl rfl rfl en_74 (rturn_ret _ _ (by omega)) ?_
   rintro _ w7 ⟨rfl, hx7⟩
   replace hE2 := Ex.tr hE2 hx7
   replace hE5 := Ex.tr hE5 hx7
   have hE8 := hx7
   refine RG.vl rfl rfl rfl (Ev.assign rfl rfl) ?_
   refine RG.done (QW.then_ (CW.seq (CW.region ?_)))
   refine RG.vl rfl rfl rfl (Ev.move rfl rfl) ?_
   refine RG.call rfl rfl rfl rfl rfl rfl rfl en_73 (rframed_ret _ _ (by first | omega | (rw [turnL_len]; omega))) ?_
   rintro _ w9 ⟨rfl, hx9⟩
   replace hE2 := Ex.tr hE2 hx9
   replace hE5 := Ex.tr hE5 hx9
   replace hE8 := Ex.tr hE8 hx9
   have hE10 := hx9
   refine RG.done ?_
   refine QW.sub (S' := [(2, _), (3, _), (4, _), (6, _), (22, _)]) ⟨rfl, rfl, rfl, rfl, rfl, trivial⟩ ?_
   refine QW.then_ ?_
   refine CW.cond rfl (fun hc11 => ?_) (fun hc11 => ?_)
   ·refine CW.seq ?_
    have h4 : 4 ≤ t.length := by have := (framed_at.1 (show framed (turnL t) = true by assumption)).1; omega
    refine CW.region ?_
    refine RG.vl rfl rfl rfl (Ev.move rfl rfl) ?_
    refine RG.vl rfl rfl rfl (Ev.move rfl rfl) ?_
    refine RG.vl rfl rfl rfl (Ev.lenStr rfl rfl rfl Tryz.underlying9) ?_
    refine RG.vl rfl rfl rfl ((Ev.subI rfl rfl rfl (by omega)).conv (congrArg (Value.int .i64) (show (((⟨(turnL t).toArray⟩ : ByteArray).size : Nat) : Int) - 2 = (((turnL t).length - 2 : Nat) : Int) by omega))) ?_
    refine RG.vl rfl rfl rfl ((Ev.cutStr (i := 2) (j := (turnL t).length - 2) rfl rfl Tryz.underlying9 rfl rfl (by omega) (by omega)).conv (congrArg Value.string (bx_cut (turnL t) 2 ((turnL t).length - 2)))) ?_
    refine RG.vl rfl rfl rfl (Ev.assign rfl rfl) ?_
    refine RG.vl rfl rfl rfl (Ev.assign rfl rfl) ?_
    refine RG.vl rfl rfl rfl (Ev.assign rfl rfl) ?_
    refine RG.done (QW.then_ (CW.ret (QW.thenRet ?_)))
    refine QW.ret3 rfl rfl rfl rfl ?_
    have hB := (Ex.tr hB0 hE2)
    exact ⟨by rw [unf_dn he0 (by assumption) (by assumption)]; rfl, hB⟩
   ·refine CW.skip (QW.then_ (CW.seq (CW.region ?_)))
    refine RG.vl rfl rfl rfl (Ev.assign rfl rfl) ?_
    refine RG.vl rfl rfl rfl (Ev.assign rfl rfl) ?_
    refine RG.vl rfl rfl rfl (Ev.assign rfl rfl) ?_
    refine RG.done (QW.then_ (CW.ret ?_))
    refine QW.ret3 rfl rfl rfl rfl ?_
    have hB := (Ex.tr hB0 hE2)
    exact ⟨by rw [unf_no he0 (by assumption) (by assumption)], hB⟩

end Go.Proofs.YtgjnchjkjdnidaaGreat

/- Walks (BR). Written by program. -/
namespace Go.Proofs.YtgjnchjkjdnidaaGreat
open Go.RowKit
set_option maxRecDepth 100000 in
set_option maxHeartbeats 4000000 in
theorem brread_ret (t : List UInt8) (w : World) (hlen : t.length ≤ 100000) :
  Ret Tryz.prog 34 [.string ⟨t.toArray⟩] w (fun v w' => ∃ r e, v = .tuple #[r, e, .int .i64 (readB t).2.2] ∧ Own w' w.heap.size 5 1 encB r (readB t).1 ∧ Own w' w.heap.size 3 1 encZ e (readB t).2.1 ∧ Ex w w') := by
 have hts := sb_len t
 have hB0 : Ex w w := Ex.rfl_ _
 refine Ret.of Tryz.func34 rfl Tryz.ntmps34 rfl ?_
 refine CW.seq (CW.region ?_)
 refine RG.vl rfl rfl rfl (Ev.assign rfl rfl) ?_
 refine RG.vl rfl rfl rfl (Ev.assign rfl rfl) ?_
 refine RG.vl rfl rfl rfl (Ev.assign rfl rfl) ?_
 refine RG.done (QW.then_ (CW.seq (CW.seq (CW.region ?_))))
 refine RG.vl rfl rfl rfl (Ev.move rfl rfl) ?_
 refine RG.call rfl rfl rfl rfl rfl rfl rfl en_72 (berror_ret _ 0 _ (by omega) (by omega)) ?_
 rintro _ w1 ⟨rfl, hx1⟩
 have hE2 := hx1
 refine RG.vl rfl rfl rfl (Ev.assign rfl rfl) ?_
 refine RG.done (QW.then_ (CW.seq (CW.region ?_)))
 refine RG.vl rfl rfl rfl (Ev.move rfl rfl) ?_
 refine RG.vl rfl rfl rfl (Ev.neI rfl rfl rfl) ?_
 refine RG.done (QW.then_ ?_)
 refine CW.condP rfl (fun hc3 => ?_) (fun hc3 => ?_)
 ·refine CW.seq (CW.region ?_)
  refine RG.vl rfl rfl rfl (Ev.move rfl rfl) ?_
  refine RG.vl rfl rfl rfl (Ev.assign rfl rfl) ?_
  refine RG.vl rfl rfl rfl (Ev.assign rfl rfl) ?_
  refine RG.vl rfl rfl rfl (Ev.assign rfl rfl) ?_
  refine RG.done (QW.then_ (CW.ret (QW.thenRet ?_)))
  refine QW.ret3 rfl rfl rfl rfl ?_
  have hB := (Ex.tr hB0 hE2)
  exact ⟨_, _, by rw [read_err (by assumption)], by rw [read_err (by assumption)]; exact Own.nil_ _ _ _ _ _, by rw [read_err (by assumption)]; exact Own.nil_ _ _ _ _ _, hB⟩
 ·refine CW.skip (QW.then_ (CW.seq (CW.seq ?_)))
  have he0 := Decidable.not_not.1 (show ¬ ¬ errB 0 t = 0 from by assumption)
  have hok := err_ok he0
  refine CW.region ?_
  refine RG.vl rfl rfl rfl (Ev.move rfl rfl) ?_
  refine RG.vl rfl rfl rfl (Ev.lenStr rfl rfl rfl Tryz.underlying9) ?_
  refine RG.vl rfl rfl rfl (Ev.remI rfl rfl rfl (by omega)) ?_
  refine RG.vl rfl rfl rfl (Ev.neI rfl rfl rfl) ?_
  refine RG.done (QW.then_ ?_)
  refine CW.condP rfl (fun hc4 => ?_) (fun hc4 => ?_)
  ·refine CW.seq (CW.region ?_)
   refine RG.vl rfl rfl rfl (Ev.assign rfl rfl) ?_
   refine RG.vl rfl rfl rfl (Ev.assign rfl rfl) ?_
   refine RG.vl rfl rfl rfl (Ev.assign rfl rfl) ?_
   refine RG.done ?_
   refine QW.sub (S' := [(0, _), (2, _), (3, _), (4, _)]) ⟨rfl, rfl, rfl, rfl, trivial⟩ ?_
   refine QW.then_ (CW.ret (QW.thenRet ?_))
   refine QW.ret3 rfl rfl rfl rfl ?_
   have hB := (Ex.tr hB0 hE2)
   exact ⟨_, _, by rw [read_len he0 (by omega)], by rw [read_len he0 (by omega)]; exact Own.nil_ _ _ _ _ _, by rw [read_len he0 (by omega)]; exact Own.nil_ _ _ _ _ _, hB⟩
  ·refine CW.skip (QW.then_ (CW.seq (CW.region ?_)))
   refine RG.vl rfl rfl rfl (Ev.assign rfl rfl) ?_
   refine RG.done (QW.then_ (CW.seq (CW.region ?_)))
   refine RG.vl rfl rfl rfl (Ev.assign rfl rfl) ?_
   refine RG.done ?_
   refine QW.sub (S' := [(0, _), (2, _), (3, _), (4, _), (6, _), (7, _)]) ⟨rfl, rfl, rfl, rfl, rfl, rfl, trivial⟩ ?_
   refine QW.then_ (CW.seq (CW.seq (CW.region ?_)))
   refine RG.vl rfl rfl rfl (Ev.assign rfl rfl) ?_
   refine RG.done (QW.then_ (CW.block ?_))
   have hR5 := (Ex.tr hB0 hE2)
   refine CW.loop3 [(0, _), (2, _), (3, _), (4, _)] ⟨rfl, rfl, rfl, rfl, trivial⟩ (fun (k : Nat) (u : Value) (x : Value) => [(8, .int .i64 (k : Int)), (6, u), (7, x)]) (fun k u x w' => (k ≤ t.length / 3 ∧ Own w' w1.heap.size 5 1 encB u (symsL t k) ∧ Own w' w1.heap.size 3 1 encZ x (erasL t k) ∧ Sep u x) ∧ Ex w1 w') (fun k u x => t.length / 3 - k) (0) (.slice none 0 0) (.slice none 0 0) ⟨rfl, rfl, rfl, trivial⟩ ⟨⟨by omega, Own.nil_ _ _ _ _ _, Own.nil_ _ _ _ _ _, Sep.nil_ _⟩, (Ex.rfl_ _)⟩ ?_
   rintro k u x wl6 ⟨⟨hk, hou, hox, hsp⟩, hxwl6⟩
   refine CW.sub (S' := [(8, _), (6, _), (7, _), (0, _), (2, _), (3, _), (4, _)]) ⟨rfl, rfl, rfl, rfl, rfl, rfl, rfl, trivial⟩ ?_
   refine CW.seq (CW.seq (CW.region ?_))
   refine RG.vl rfl rfl rfl (Ev.move rfl rfl) ?_
   refine RG.vl rfl rfl rfl (Ev.move rfl rfl) ?_
   refine RG.vl rfl rfl rfl (Ev.lenStr rfl rfl rfl Tryz.underlying9) ?_
   refine RG.vl rfl rfl rfl ((Ev.quoI rfl rfl rfl (by omega)).conv (congrArg (Value.int .i64) (show (((⟨t.toArray⟩ : ByteArray).size : Nat) : Int) / 3 = ((t.length / 3 : Nat) : Int) by omega))) ?_
   refine RG.vl rfl rfl rfl (Ev.lss rfl rfl rfl) ?_
   refine RG.done (QW.then_ ?_)
   refine CW.condP rfl (fun hc7 => ?_) (fun hc7 => ?_)
   ·refine CW.skip (QW.then_ (CW.seq (CW.block (CW.seq ?_))))
    obtain ⟨a, ha⟩ : ∃ x, t[3 * k]? = some x := ⟨_, List.getElem?_eq_getElem (by omega)⟩
    have hLa := List.all_eq_true.1 hok.2 a (List.mem_of_getElem? ha)
    have hra := numR_le a
    obtain ⟨b, hb⟩ : ∃ x, t[3 * k + 1]? = some x := ⟨_, List.getElem?_eq_getElem (by omega)⟩
    have hLb := List.all_eq_true.1 hok.2 b (List.mem_of_getElem? hb)
    have hrb := numR_le b
    obtain ⟨c, hc⟩ : ∃ x, t[3 * k + 2]? = some x := ⟨_, List.getElem?_eq_getElem (by omega)⟩
    have hLc := List.all_eq_true.1 hok.2 c (List.mem_of_getElem? hc)
    have hrc := numR_le c
    have h3 := part3 ha hb hc
    have hu3 := unc3 h3
    have hsl := syms_len t k
    have hel := eras_len t k
    refine CW.draw [] (.ex) 20 rfl mixed (fun wd8 hxwd8 => ?_)
    replace hxwl6 := Ex.tr hxwl6 hxwd8
    have hE9 := hxwd8
    refine AG.takeW 0 rfl (by kernel_rfl) (by kernel_rfl) rfl rfl rfl (fun _ => Ev.move rfl rfl) ?_
    refine AG.takeW 1 rfl (by kernel_rfl) (by kernel_rfl) rfl rfl rfl (fun _ => Ev.move rfl rfl) ?_
    refine AG.takeW 2 rfl (by kernel_rfl) (by kernel_rfl) rfl rfl rfl (fun _ => (Ev.mulI rfl rfl rfl (by omega)).conv (congrArg (Value.int .i64) (show (3 : Int) * (k : Int) = ((3 * k : Nat) : Int) by omega))) ?_
    refine AG.takeW 3 rfl (by kernel_rfl) (by kernel_rfl) rfl rfl rfl (fun _ => Ev.byteAt rfl rfl rfl Tryz.underlying9 (by omega) (ha)) ?_
    refine AG.takeW 5 rfl (by kernel_rfl) (by kernel_rfl) rfl rfl rfl (fun _ => Ev.move rfl rfl) ?_
    refine AG.takeW 6 rfl (by kernel_rfl) (by kernel_rfl) rfl rfl rfl (fun _ => Ev.move rfl rfl) ?_
    refine AG.takeW 7 rfl (by kernel_rfl) (by kernel_rfl) rfl rfl rfl (fun _ => (Ev.mulI rfl rfl rfl (by omega)).conv (congrArg (Value.int .i64) (show (3 : Int) * (k : Int) = ((3 * k : Nat) : Int) by omega))) ?_
    refine AG.takeW 8 rfl (by kernel_rfl) (by kernel_rfl) rfl rfl rfl (fun _ => (Ev.addI rfl rfl rfl (by omega)).conv (congrArg (Value.int .i64) (show ((3 * k : Nat) : Int) + 1 = ((3 * k + 1 : Nat) : Int) by omega))) ?_
    refine AG.takeW 9 rfl (by kernel_rfl) (by kernel_rfl) rfl rfl rfl (fun _ => Ev.byteAt rfl rfl rfl Tryz.underlying9 (by omega) (hb)) ?_
    refine AG.takeW 11 rfl (by kernel_rfl) (by kernel_rfl) rfl rfl rfl (fun _ => Ev.move rfl rfl) ?_
    refine AG.takeW 12 rfl (by kernel_rfl) (by kernel_rfl) rfl rfl rfl (fun _ => Ev.move rfl rfl) ?_
    refine AG.takeW 13 rfl (by kernel_rfl) (by kernel_rfl) rfl rfl rfl (fun _ => (Ev.mulI rfl rfl rfl (by omega)).conv (congrArg (Value.int .i64) (show (3 : Int) * (k : Int) = ((3 * k : Nat) : Int) by omega))) ?_
    refine AG.takeW 14 rfl (by kernel_rfl) (by kernel_rfl) rfl rfl rfl (fun _ => (Ev.addI rfl rfl rfl (by omega)).conv (congrArg (Value.int .i64) (show ((3 * k : Nat) : Int) + 2 = ((3 * k + 2 : Nat) : Int) by omega))) ?_
    refine AG.takeW 15 rfl (by kernel_rfl) (by kernel_rfl) rfl rfl rfl (fun _ => Ev.byteAt rfl rfl rfl Tryz.underlying9 (by omega) (hc)) ?_
    refine AG.only 4 rfl (by kernel_rfl) ?_
    refine RG.call rfl rfl rfl rfl rfl rfl rfl en_75 (bnumber_ret a _) ?_
    rintro _ w11 ⟨rfl, hx11⟩
    replace hxwl6 := Ex.tr hxwl6 hx11
    replace hE9 := Ex.tr hE9 hx11
    have hE12 := hx11
    refine RG.done ?_
    refine QW.an (fun _ => hE12) ?_
    refine AG.only 10 rfl (by kernel_rfl) ?_
    refine RG.call rfl rfl rfl rfl rfl rfl rfl en_75 (bnumber_ret b _) ?_
    rintro _ w14 ⟨rfl, hx14⟩
    replace hxwl6 := Ex.tr hxwl6 hx14
    replace hE9 := Ex.tr hE9 hx14
    replace hE12 := Ex.tr hE12 hx14
    have hE15 := hx14
    refine RG.done ?_
    refine QW.an (fun _ => hE15) ?_
    refine AG.only 16 rfl (by kernel_rfl) ?_
    refine RG.call rfl rfl rfl rfl rfl rfl rfl en_75 (bnumber_ret c _) ?_
    rintro _ w17 ⟨rfl, hx17⟩
    replace hxwl6 := Ex.tr hxwl6 hx17
    replace hE9 := Ex.tr hE9 hx17
    replace hE12 := Ex.tr hE12 hx17
    replace hE15 := Ex.tr hE15 hx17
    have hE18 := hx17
    refine RG.done ?_
    refine QW.an (fun _ => hE18) ?_
    refine AG.takeW 17 rfl (by kernel_rfl) (by kernel_rfl) rfl rfl rfl (fun _ => Ev.assign rfl rfl) ?_
    refine AG.takeW 18 rfl (by kernel_rfl) (by kernel_rfl) rfl rfl rfl (fun _ => Ev.assign rfl rfl) ?_
    refine AG.takeW 19 rfl (by kernel_rfl) (by kernel_rfl) rfl rfl rfl (fun _ => Ev.assign rfl rfl) ?_
    refine AG.done (by kernel_rfl) ?_
    refine QW.sub (S' := [(0, _), (2, _), (3, _), (4, _), (6, _), (7, _), (8, _), (9, _), (10, _), (11, _)]) ⟨rfl, rfl, rfl, rfl, rfl, rfl, rfl, rfl, rfl, rfl, trivial⟩ ?_
    refine QW.then_ (CW.seq (CW.region ?_))
    refine RG.vl rfl rfl rfl (Ev.move rfl rfl) ?_
    refine RG.vl rfl rfl rfl (Ev.eqI rfl rfl rfl) ?_
    refine RG.vl rfl rfl rfl (Ev.move rfl rfl) ?_
    refine RG.split (d := 47) rfl (fun hg19 => ?_) (fun hg19 => ?_)
    ·refine RG.pass rfl rfl rfl ?_
     refine RG.pass rfl rfl rfl ?_
     refine RG.vl rfl rfl rfl (Ev.pickT rfl rfl rfl) ?_
     refine RG.vl rfl rfl rfl (Ev.move rfl rfl) ?_
     refine RG.pass rfl rfl rfl ?_
     refine RG.pass rfl rfl rfl ?_
     refine RG.vl rfl rfl rfl (Ev.pickT rfl rfl rfl) ?_
     refine RG.done (QW.then_ ?_)
     refine CW.condT rfl ?_
     refine CW.seq ?_
     have hu : unc t k = true := by rw [hu3, decide_eq_true_eq]; first | exact .inl (numR4.1 (by omega)) | exact .inr (.inl (numR4.1 (by omega))) | exact .inr (.inr (numR4.1 (by omega)))
     have hs0 : symB t k = 0 := by unfold symB; rw [hu]; rfl
     refine CW.region ?_
     refine RG.vl rfl rfl rfl (Ev.move rfl rfl) ?_
     refine RG.litO (os := [_]) (enc := encB) ([0]) rfl rfl rfl rfl rfl rfl rfl Tryz.underlying58 inf_5 rfl rfl rfl rfl rfl encB_len rfl rfl (fun v20 wk21 hxwk21 hown22 hnew23 => ?_)
     have hsep24 : Sep v20 _ := Sep.of_new (Own.ext hou hE9) hnew23
     have hsep25 : Sep v20 _ := Sep.of_new (Own.ext hox hE9) hnew23
     replace hxwl6 := Ex.tr hxwl6 hxwk21
     replace hE9 := Ex.tr hE9 hxwk21
     replace hE12 := Ex.tr hE12 hxwk21
     replace hE15 := Ex.tr hE15 hxwk21
     replace hE18 := Ex.tr hE18 hxwk21
     have hE26 := hxwk21
     refine RG.appO rfl rfl rfl rfl rfl rfl rfl Tryz.underlying58 inf_5 rfl rfl encB_len (fun _ => rfl) (Own.ext hou hE9) ((hown22.rdl encB_len)) (by show _ + 1 ≤ maxLen; simp only [maxLen]; omega) (by show (_ + 1) * _ ≤ _; omega) (hxwl6.size) (fun v27 wa28 hown29 hgr30 hat31 => ?_)
     have hsep33 := Sep.app hsp (Own.ext hox hE9) hat31
     have hown32 := Own.grown (Own.ext hox hE9) hgr30 (fun k a b => hsp k b a)
     have hsep35 := Sep.app (Sep.symm hsep24) hown22 hat31
     have hown34 := Own.grown hown22 hgr30 (fun k a b => (Sep.symm hsep24) k b a)
     replace hxwl6 := own_block (Own.ext hou hE9) hxwl6 hgr30 (Nat.le_refl _) hxwl6.size
     refine RG.vl rfl rfl rfl (Ev.assign rfl rfl) ?_
     refine RG.done ?_
     refine QW.sub (S' := [(0, _), (2, _), (3, _), (4, _), (6, _), (7, _), (8, _)]) ⟨rfl, rfl, rfl, rfl, rfl, rfl, rfl, trivial⟩ ?_
     refine QW.then_ (CW.region ?_)
     refine RG.vl rfl rfl rfl (Ev.move rfl rfl) ?_
     refine RG.vl rfl rfl rfl (Ev.move rfl rfl) ?_
     refine RG.litO (os := [.tmp 59]) (enc := encZ) ([k]) rfl rfl rfl rfl rfl rfl rfl Tryz.underlying29 inf_3 rfl rfl rfl rfl rfl encZ_len rfl rfl (fun v36 wk37 hxwk37 hown38 hnew39 => ?_)
     have hsep40 : Sep v36 _ := Sep.of_new hown32 hnew39
     have hsep41 : Sep v36 _ := Sep.of_new hown34 hnew39
     have hsep42 : Sep v36 _ := Sep.of_new hown29 hnew39
     replace hxwl6 := Ex.tr hxwl6 hxwk37
     have hE43 := hxwk37
     refine RG.appO rfl rfl rfl rfl rfl rfl rfl Tryz.underlying29 inf_3 rfl rfl encZ_len (fun _ => rfl) (Own.ext hown32 hE43) ((hown38.rdl encZ_len)) (by show _ + 1 ≤ maxLen; simp only [maxLen]; omega) (by show (_ + 1) * _ ≤ _; omega) (hxwl6.size) (fun v44 wa45 hown46 hgr47 hat48 => ?_)
     have hsep50 := Sep.app (Sep.symm hsep25) (Own.ext hown34 hE43) hat48
     have hown49 := Own.grown (Own.ext hown34 hE43) hgr47 (fun k a b => (Sep.symm hsep25) k b a)
     have hsep52 := Sep.app (Sep.symm hsep33) (Own.ext hown29 hE43) hat48
     have hown51 := Own.grown (Own.ext hown29 hE43) hgr47 (fun k a b => (Sep.symm hsep33) k b a)
     have hsep54 := Sep.app (Sep.symm hsep40) hown38 hat48
     have hown53 := Own.grown hown38 hgr47 (fun k a b => (Sep.symm hsep40) k b a)
     replace hxwl6 := own_block (Own.ext hown32 hE43) hxwl6 hgr47 (Nat.le_refl _) hxwl6.size
     refine RG.vl rfl rfl rfl (Ev.assign rfl rfl) ?_
     refine RG.done (QW.blockN (QW.then_ (CW.region ?_)))
     refine RG.vl rfl rfl rfl (Ev.move rfl rfl) ?_
     refine RG.vl rfl rfl rfl (Ev.addI rfl rfl rfl (by omega)) ?_
     refine RG.vl rfl rfl rfl (Ev.assign rfl rfl) ?_
     refine RG.done ?_
     refine QW.round3 (k + 1) (v27) (v44) ⟨rfl, rfl, rfl, trivial⟩ ⟨rfl, rfl, rfl, rfl, trivial⟩ ⟨⟨by omega, by rw [syms_more, hs0]; exact hown51, by rw [eras_yes hu]; exact hown46, (Sep.symm hsep52)⟩, hxwl6⟩ (by omega)
    ·refine RG.vl rfl rfl rfl (Ev.move rfl rfl) ?_
     refine RG.vl rfl rfl rfl (Ev.eqI rfl rfl rfl) ?_
     refine RG.vl rfl rfl rfl (Ev.pickF rfl rfl rfl) ?_
     refine RG.vl rfl rfl rfl (Ev.move rfl rfl) ?_
     refine RG.split (d := 51) rfl (fun hg55 => ?_) (fun hg55 => ?_)
     ·refine RG.pass rfl rfl rfl ?_
      refine RG.pass rfl rfl rfl ?_
      refine RG.vl rfl rfl rfl (Ev.pickT rfl rfl rfl) ?_
      refine RG.done (QW.then_ ?_)
      refine CW.condT rfl ?_
      refine CW.seq ?_
      have hu : unc t k = true := by rw [hu3, decide_eq_true_eq]; first | exact .inl (numR4.1 (by omega)) | exact .inr (.inl (numR4.1 (by omega))) | exact .inr (.inr (numR4.1 (by omega)))
      have hs0 : symB t k = 0 := by unfold symB; rw [hu]; rfl
      refine CW.region ?_
      refine RG.vl rfl rfl rfl (Ev.move rfl rfl) ?_
      refine RG.litO (os := [_]) (enc := encB) ([0]) rfl rfl rfl rfl rfl rfl rfl Tryz.underlying58 inf_5 rfl rfl rfl rfl rfl encB_len rfl rfl (fun v56 wk57 hxwk57 hown58 hnew59 => ?_)
      have hsep60 : Sep v56 _ := Sep.of_new (Own.ext hou hE9) hnew59
      have hsep61 : Sep v56 _ := Sep.of_new (Own.ext hox hE9) hnew59
      replace hxwl6 := Ex.tr hxwl6 hxwk57
      replace hE9 := Ex.tr hE9 hxwk57
      replace hE12 := Ex.tr hE12 hxwk57
      replace hE15 := Ex.tr hE15 hxwk57
      replace hE18 := Ex.tr hE18 hxwk57
      have hE62 := hxwk57
      refine RG.appO rfl rfl rfl rfl rfl rfl rfl Tryz.underlying58 inf_5 rfl rfl encB_len (fun _ => rfl) (Own.ext hou hE9) ((hown58.rdl encB_len)) (by show _ + 1 ≤ maxLen; simp only [maxLen]; omega) (by show (_ + 1) * _ ≤ _; omega) (hxwl6.size) (fun v63 wa64 hown65 hgr66 hat67 => ?_)
      have hsep69 := Sep.app hsp (Own.ext hox hE9) hat67
      have hown68 := Own.grown (Own.ext hox hE9) hgr66 (fun k a b => hsp k b a)
      have hsep71 := Sep.app (Sep.symm hsep60) hown58 hat67
      have hown70 := Own.grown hown58 hgr66 (fun k a b => (Sep.symm hsep60) k b a)
      replace hxwl6 := own_block (Own.ext hou hE9) hxwl6 hgr66 (Nat.le_refl _) hxwl6.size
      refine RG.vl rfl rfl rfl (Ev.assign rfl rfl) ?_
      refine RG.done ?_
      refine QW.sub (S' := [(0, _), (2, _), (3, _), (4, _), (6, _), (7, _), (8, _)]) ⟨rfl, rfl, rfl, rfl, rfl, rfl, rfl, trivial⟩ ?_
      refine QW.then_ (CW.region ?_)
      refine RG.vl rfl rfl rfl (Ev.move rfl rfl) ?_
      refine RG.vl rfl rfl rfl (Ev.move rfl rfl) ?_
      refine RG.litO (os := [.tmp 59]) (enc := encZ) ([k]) rfl rfl rfl rfl rfl rfl rfl Tryz.underlying29 inf_3 rfl rfl rfl rfl rfl encZ_len rfl rfl (fun v72 wk73 hxwk73 hown74 hnew75 => ?_)
      have hsep76 : Sep v72 _ := Sep.of_new hown68 hnew75
      have hsep77 : Sep v72 _ := Sep.of_new hown70 hnew75
      have hsep78 : Sep v72 _ := Sep.of_new hown65 hnew75
      replace hxwl6 := Ex.tr hxwl6 hxwk73
      have hE79 := hxwk73
      refine RG.appO rfl rfl rfl rfl rfl rfl rfl Tryz.underlying29 inf_3 rfl rfl encZ_len (fun _ => rfl) (Own.ext hown68 hE79) ((hown74.rdl encZ_len)) (by show _ + 1 ≤ maxLen; simp only [maxLen]; omega) (by show (_ + 1) * _ ≤ _; omega) (hxwl6.size) (fun v80 wa81 hown82 hgr83 hat84 => ?_)
      have hsep86 := Sep.app (Sep.symm hsep61) (Own.ext hown70 hE79) hat84
      have hown85 := Own.grown (Own.ext hown70 hE79) hgr83 (fun k a b => (Sep.symm hsep61) k b a)
      have hsep88 := Sep.app (Sep.symm hsep69) (Own.ext hown65 hE79) hat84
      have hown87 := Own.grown (Own.ext hown65 hE79) hgr83 (fun k a b => (Sep.symm hsep69) k b a)
      have hsep90 := Sep.app (Sep.symm hsep76) hown74 hat84
      have hown89 := Own.grown hown74 hgr83 (fun k a b => (Sep.symm hsep76) k b a)
      replace hxwl6 := own_block (Own.ext hown68 hE79) hxwl6 hgr83 (Nat.le_refl _) hxwl6.size
      refine RG.vl rfl rfl rfl (Ev.assign rfl rfl) ?_
      refine RG.done (QW.blockN (QW.then_ (CW.region ?_)))
      refine RG.vl rfl rfl rfl (Ev.move rfl rfl) ?_
      refine RG.vl rfl rfl rfl (Ev.addI rfl rfl rfl (by omega)) ?_
      refine RG.vl rfl rfl rfl (Ev.assign rfl rfl) ?_
      refine RG.done ?_
      refine QW.round3 (k + 1) (v63) (v80) ⟨rfl, rfl, rfl, trivial⟩ ⟨rfl, rfl, rfl, rfl, trivial⟩ ⟨⟨by omega, by rw [syms_more, hs0]; exact hown87, by rw [eras_yes hu]; exact hown82, (Sep.symm hsep88)⟩, hxwl6⟩ (by omega)
     ·refine RG.vl rfl rfl rfl (Ev.move rfl rfl) ?_
      refine RG.vl rfl rfl rfl (Ev.eqI rfl rfl rfl) ?_
      refine RG.vl rfl rfl rfl (Ev.pickF rfl rfl rfl) ?_
      refine RG.done (QW.then_ ?_)
      refine CW.condP rfl (fun hc91 => ?_) (fun hc91 => ?_)
      ·refine CW.seq ?_
       have hu : unc t k = true := by rw [hu3, decide_eq_true_eq]; first | exact .inl (numR4.1 (by omega)) | exact .inr (.inl (numR4.1 (by omega))) | exact .inr (.inr (numR4.1 (by omega)))
       have hs0 : symB t k = 0 := by unfold symB; rw [hu]; rfl
       refine CW.region ?_
       refine RG.vl rfl rfl rfl (Ev.move rfl rfl) ?_
       refine RG.litO (os := [_]) (enc := encB) ([0]) rfl rfl rfl rfl rfl rfl rfl Tryz.underlying58 inf_5 rfl rfl rfl rfl rfl encB_len rfl rfl (fun v92 wk93 hxwk93 hown94 hnew95 => ?_)
       have hsep96 : Sep v92 _ := Sep.of_new (Own.ext hou hE9) hnew95
       have hsep97 : Sep v92 _ := Sep.of_new (Own.ext hox hE9) hnew95
       replace hxwl6 := Ex.tr hxwl6 hxwk93
       replace hE9 := Ex.tr hE9 hxwk93
       replace hE12 := Ex.tr hE12 hxwk93
       replace hE15 := Ex.tr hE15 hxwk93
       replace hE18 := Ex.tr hE18 hxwk93
       have hE98 := hxwk93
       refine RG.appO rfl rfl rfl rfl rfl rfl rfl Tryz.underlying58 inf_5 rfl rfl encB_len (fun _ => rfl) (Own.ext hou hE9) ((hown94.rdl encB_len)) (by show _ + 1 ≤ maxLen; simp only [maxLen]; omega) (by show (_ + 1) * _ ≤ _; omega) (hxwl6.size) (fun v99 wa100 hown101 hgr102 hat103 => ?_)
       have hsep105 := Sep.app hsp (Own.ext hox hE9) hat103
       have hown104 := Own.grown (Own.ext hox hE9) hgr102 (fun k a b => hsp k b a)
       have hsep107 := Sep.app (Sep.symm hsep96) hown94 hat103
       have hown106 := Own.grown hown94 hgr102 (fun k a b => (Sep.symm hsep96) k b a)
       replace hxwl6 := own_block (Own.ext hou hE9) hxwl6 hgr102 (Nat.le_refl _) hxwl6.size
       refine RG.vl rfl rfl rfl (Ev.assign rfl rfl) ?_
       refine RG.done ?_
       refine QW.sub (S' := [(0, _), (2, _), (3, _), (4, _), (6, _), (7, _), (8, _)]) ⟨rfl, rfl, rfl, rfl, rfl, rfl, rfl, trivial⟩ ?_
       refine QW.then_ (CW.region ?_)
       refine RG.vl rfl rfl rfl (Ev.move rfl rfl) ?_
       refine RG.vl rfl rfl rfl (Ev.move rfl rfl) ?_
       refine RG.litO (os := [.tmp 59]) (enc := encZ) ([k]) rfl rfl rfl rfl rfl rfl rfl Tryz.underlying29 inf_3 rfl rfl rfl rfl rfl encZ_len rfl rfl (fun v108 wk109 hxwk109 hown110 hnew111 => ?_)
       have hsep112 : Sep v108 _ := Sep.of_new hown104 hnew111
       have hsep113 : Sep v108 _ := Sep.of_new hown106 hnew111
       have hsep114 : Sep v108 _ := Sep.of_new hown101 hnew111
       replace hxwl6 := Ex.tr hxwl6 hxwk109
       have hE115 := hxwk109
       refine RG.appO rfl rfl rfl rfl rfl rfl rfl Tryz.underlying29 inf_3 rfl rfl encZ_len (fun _ => rfl) (Own.ext hown104 hE115) ((hown110.rdl encZ_len)) (by show _ + 1 ≤ maxLen; simp only [maxLen]; omega) (by show (_ + 1) * _ ≤ _; omega) (hxwl6.size) (fun v116 wa117 hown118 hgr119 hat120 => ?_)
       have hsep122 := Sep.app (Sep.symm hsep97) (Own.ext hown106 hE115) hat120
       have hown121 := Own.grown (Own.ext hown106 hE115) hgr119 (fun k a b => (Sep.symm hsep97) k b a)
       have hsep124 := Sep.app (Sep.symm hsep105) (Own.ext hown101 hE115) hat120
       have hown123 := Own.grown (Own.ext hown101 hE115) hgr119 (fun k a b => (Sep.symm hsep105) k b a)
       have hsep126 := Sep.app (Sep.symm hsep112) hown110 hat120
       have hown125 := Own.grown hown110 hgr119 (fun k a b => (Sep.symm hsep112) k b a)
       replace hxwl6 := own_block (Own.ext hown104 hE115) hxwl6 hgr119 (Nat.le_refl _) hxwl6.size
       refine RG.vl rfl rfl rfl (Ev.assign rfl rfl) ?_
       refine RG.done (QW.blockN (QW.then_ (CW.region ?_)))
       refine RG.vl rfl rfl rfl (Ev.move rfl rfl) ?_
       refine RG.vl rfl rfl rfl (Ev.addI rfl rfl rfl (by omega)) ?_
       refine RG.vl rfl rfl rfl (Ev.assign rfl rfl) ?_
       refine RG.done ?_
       refine QW.round3 (k + 1) (v99) (v116) ⟨rfl, rfl, rfl, trivial⟩ ⟨rfl, rfl, rfl, rfl, trivial⟩ ⟨⟨by omega, by rw [syms_more, hs0]; exact hown123, by rw [eras_yes hu]; exact hown118, (Sep.symm hsep124)⟩, hxwl6⟩ (by omega)
      ·have ha6 : a ≠ 63 := fun e => by have := numR4.2 e; omega
       have ga := numR_num hLa ha6
       have ga3 := (num_of hLa ha6).2
       have hb6 : b ≠ 63 := fun e => by have := numR4.2 e; omega
       have gb := numR_num hLb hb6
       have gb3 := (num_of hLb hb6).2
       have hc6 : c ≠ 63 := fun e => by have := numR4.2 e; omega
       have gc := numR_num hLc hc6
       have gc3 := (num_of hLc hc6).2
       have hn : unc t k = false := by rw [hu3, decide_eq_false_iff_not]; rintro (h | h | h); exact ha6 h; exact hb6 h; exact hc6 h
       have hac : ((symB t k).toNat : Int) = 16 * (numR a : Int) + 4 * (numR b : Int) + (numR c : Int) := by rw [sym3 h3 hn, UInt8.toNat_ofNat_of_lt' (show 16 * num a + 4 * num b + num c < 256 by omega)]; omega
       refine CW.region ?_
       refine RG.vl rfl rfl rfl (Ev.move rfl rfl) ?_
       refine RG.vl rfl rfl rfl (Ev.move rfl rfl) ?_
       refine RG.vl rfl rfl rfl (Ev.mulI rfl rfl rfl (by omega)) ?_
       refine RG.vl rfl rfl rfl (Ev.move rfl rfl) ?_
       refine RG.vl rfl rfl rfl (Ev.mulI rfl rfl rfl (by omega)) ?_
       refine RG.vl rfl rfl rfl (Ev.addI rfl rfl rfl (by omega)) ?_
       refine RG.vl rfl rfl rfl (Ev.move rfl rfl) ?_
       refine RG.vl rfl rfl rfl (Ev.addI rfl rfl rfl (by omega)) ?_
       refine RG.vl rfl rfl rfl ((Ev.to8 rfl rfl Tryz.underlying3 Tryz.underlying5 (by omega)).conv (congrArg (Value.int .u8) hac.symm)) ?_
       refine RG.litO (os := [.tmp 70]) (enc := encB) ([symB t k]) rfl rfl rfl rfl rfl rfl rfl Tryz.underlying58 inf_5 rfl rfl rfl rfl rfl encB_len rfl rfl (fun v127 wk128 hxwk128 hown129 hnew130 => ?_)
       have hsep131 : Sep v127 _ := Sep.of_new (Own.ext hou hE9) hnew130
       have hsep132 : Sep v127 _ := Sep.of_new (Own.ext hox hE9) hnew130
       replace hxwl6 := Ex.tr hxwl6 hxwk128
       replace hE9 := Ex.tr hE9 hxwk128
       replace hE12 := Ex.tr hE12 hxwk128
       replace hE15 := Ex.tr hE15 hxwk128
       replace hE18 := Ex.tr hE18 hxwk128
       have hE133 := hxwk128
       refine RG.appO rfl rfl rfl rfl rfl rfl rfl Tryz.underlying58 inf_5 rfl rfl encB_len (fun _ => rfl) (Own.ext hou hE9) ((hown129.rdl encB_len)) (by show _ + 1 ≤ maxLen; simp only [maxLen]; omega) (by show (_ + 1) * _ ≤ _; omega) (hxwl6.size) (fun v134 wa135 hown136 hgr137 hat138 => ?_)
       have hsep140 := Sep.app hsp (Own.ext hox hE9) hat138
       have hown139 := Own.grown (Own.ext hox hE9) hgr137 (fun k a b => hsp k b a)
       have hsep142 := Sep.app (Sep.symm hsep131) hown129 hat138
       have hown141 := Own.grown hown129 hgr137 (fun k a b => (Sep.symm hsep131) k b a)
       replace hxwl6 := own_block (Own.ext hou hE9) hxwl6 hgr137 (Nat.le_refl _) hxwl6.size
       refine RG.vl rfl rfl rfl (Ev.assign rfl rfl) ?_
       refine RG.done ?_
       refine QW.sub (S' := [(0, _), (2, _), (3, _), (4, _), (6, _), (7, _), (8, _)]) ⟨rfl, rfl, rfl, rfl, rfl, rfl, rfl, trivial⟩ ?_
       refine QW.blockN (QW.then_ (CW.region ?_))
       refine RG.vl rfl rfl rfl (Ev.move rfl rfl) ?_
       refine RG.vl rfl rfl rfl (Ev.addI rfl rfl rfl (by omega)) ?_
       refine RG.vl rfl rfl rfl (Ev.assign rfl rfl) ?_
       refine RG.done ?_
       refine QW.round3 (k + 1) (v134) (x) ⟨rfl, rfl, rfl, trivial⟩ ⟨rfl, rfl, rfl, rfl, trivial⟩ ⟨⟨by omega, by rw [syms_more]; exact hown136, by rw [eras_no hn]; exact hown139, hsep140⟩, hxwl6⟩ (by omega)
   ·refine CW.exit (QW.thenExit (QW.thenExit (QW.blockHit (QW.then_ (CW.seq (CW.region ?_))))))
    refine RG.vl rfl rfl rfl (Ev.move rfl rfl) ?_
    refine RG.vl rfl rfl rfl (Ev.move rfl rfl) ?_
    refine RG.vl rfl rfl rfl (Ev.assign rfl rfl) ?_
    refine RG.vl rfl rfl rfl (Ev.assign rfl rfl) ?_
    refine RG.vl rfl rfl rfl (Ev.assign rfl rfl) ?_
    refine RG.done (QW.then_ (CW.ret ?_))
    refine QW.ret3 rfl rfl rfl rfl ?_
    have hB := (Ex.tr hR5 hxwl6)
    obtain rfl : k = t.length / 3 := by omega
    have hro := read_ok he0 (by omega)
    exact ⟨_, _, by rw [hro], by rw [hro]; exact hou.low (by have := hR5.size; omega), by rw [hro]; exact hox.low (by have := hR5.size; omega), hB⟩

end Go.Proofs.YtgjnchjkjdnidaaGreat

/- Walks (RH). Written by program. -/
namespace Go.Proofs.YtgjnchjkjdnidaaGreat
open Go.RowKit
set_option maxRecDepth 100000 in
set_option maxHeartbeats 1000000 in
theorem rtrim_ret (u0 : Value) (p : List Nat) (w : World) (hl : RdL w 1 encN u0 p) (hlen : p.length ≤ 100000) :
  Ret Tryz.prog 92 [u0] w (fun v w' => Own w' w.heap.size 5 1 encN v (tr p) ∧ Ex w w') := by
 have hB0 : Ex w w := Ex.rfl_ _
 refine Ret.of Tryz.func92 rfl Tryz.ntmps92 rfl ?_
 refine CW.seq (CW.region ?_)
 refine RG.vl rfl rfl rfl (Ev.assign rfl rfl) ?_
 refine RG.done (QW.then_ (CW.seq (CW.region ?_)))
 refine RG.vl rfl rfl rfl (Ev.assign rfl rfl) ?_
 refine RG.done (QW.then_ (CW.seq (CW.seq (CW.region ?_))))
 refine RG.vl rfl rfl rfl (Ev.assign rfl rfl) ?_
 refine RG.done (QW.then_ (CW.block ?_))
 refine CW.loop2 [(0, _), (2, _)] ⟨rfl, rfl, trivial⟩ (fun (i : Nat) (u : Value) => [(4, .int .i64 i), (3, u)]) (fun i u w' => (i ≤ dg p ∧ Own w' w.heap.size 5 1 encN u (p.take i)) ∧ Ex w w') (fun i u => dg p - i) (0) (.slice none 0 0) ⟨rfl, rfl, trivial⟩ ⟨⟨Nat.zero_le _, Own.nil_ _ _ _ _ _⟩, hB0⟩ ?_
 rintro i u wl1 ⟨⟨hi, hown⟩, hxwl1⟩
 refine CW.sub (S' := [(4, _), (3, _), (0, _), (2, _)]) ⟨rfl, rfl, rfl, rfl, trivial⟩ ?_
 refine CW.seq (CW.seq ?_)
 have hdl := dg_len p
 have htl : (p.take i).length = i := by rw [List.length_take]; omega
 refine CW.region ?_
 refine RG.vl rfl rfl rfl (Ev.move rfl rfl) ?_
 refine RG.vl rfl rfl rfl (Ev.move rfl rfl) ?_
 refine RG.call rfl rfl rfl rfl rfl rfl rfl en_89 (rdeg_ret _ _ _ ((hl.ext hxwl1)) (by omega)) ?_
 rintro _ w2 ⟨rfl, hx2⟩
 replace hxwl1 := Ex.tr hxwl1 hx2
 have hE3 := hx2
 refine RG.vl rfl rfl rfl (Ev.leq rfl rfl rfl) ?_
 refine RG.done (QW.then_ ?_)
 refine CW.condP rfl (fun hc4 => ?_) (fun hc4 => ?_)
 ·refine CW.skip (QW.then_ (CW.seq (CW.block ?_)))
  obtain ⟨c, hc⟩ : ∃ c, p[i]? = some c := ⟨_, List.getElem?_eq_getElem (by omega)⟩
  refine CW.region ?_
  refine RG.vl rfl rfl rfl (Ev.move rfl rfl) ?_
  refine RG.vl rfl rfl rfl (Ev.move rfl rfl) ?_
  refine RG.vl rfl rfl rfl (Ev.move rfl rfl) ?_
  refine RG.idxL rfl rfl rfl rfl rfl rfl Tryz.underlying58 sz_5 ((hl.ext hxwl1)) (hc) (fun p5 hp5b hp5 => ?_)
  refine RG.vl rfl rfl rfl (Ev.ld0 rfl rfl Tryz.underlying5 rfl (hp5) (rfl)) ?_
  refine RG.litO (os := [.tmp 15]) (enc := encN) ([c]) rfl rfl rfl rfl rfl rfl rfl Tryz.underlying58 inf_5 rfl rfl rfl rfl rfl encN_len rfl rfl (fun v6 wk7 hxwk7 hown8 hnew9 => ?_)
  have hsep10 : Sep v6 _ := Sep.of_new (Own.ext hown hE3) hnew9
  replace hxwl1 := Ex.tr hxwl1 hxwk7
  replace hE3 := Ex.tr hE3 hxwk7
  have hE11 := hxwk7
  refine RG.appO rfl rfl rfl rfl rfl rfl rfl Tryz.underlying58 inf_5 rfl rfl encN_len (fun _ => rfl) (Own.ext hown hE3) ((hown8.rdl encN_len)) (by show _ + 1 ≤ maxLen; simp only [maxLen]; omega) (by show (_ + 1) * _ ≤ _; omega) (hxwl1.size) (fun v12 wa13 hown14 hgr15 hat16 => ?_)
  have hsep18 := Sep.app (Sep.symm hsep10) hown8 hat16
  have hown17 := Own.grown hown8 hgr15 (fun k a b => (Sep.symm hsep10) k b a)
  replace hxwl1 := own_block (Own.ext hown hE3) hxwl1 hgr15 (Nat.le_refl _) hxwl1.size
  refine RG.vl rfl rfl rfl (Ev.assign rfl rfl) ?_
  refine RG.done (QW.blockN (QW.then_ (CW.region ?_)))
  refine RG.vl rfl rfl rfl (Ev.move rfl rfl) ?_
  refine RG.vl rfl rfl rfl (Ev.addI rfl rfl rfl (by omega)) ?_
  refine RG.vl rfl rfl rfl (Ev.assign rfl rfl) ?_
  refine RG.done ?_
  refine QW.sub (S' := [(0, _), (2, _), (3, _), (4, _)]) ⟨rfl, rfl, rfl, rfl, trivial⟩ ?_
  refine QW.round2 (i + 1) (v12) ⟨rfl, rfl, trivial⟩ ⟨rfl, rfl, trivial⟩ ⟨⟨by omega, by rw [take_more p i c hc]; exact hown14⟩, (Ex.tr hB0 hxwl1)⟩ (by omega)
 ·refine CW.exit (QW.thenExit (QW.thenExit (QW.blockHit (QW.then_ (CW.seq (CW.region ?_))))))
  refine RG.vl rfl rfl rfl (Ev.move rfl rfl) ?_
  refine RG.vl rfl rfl rfl (Ev.assign rfl rfl) ?_
  refine RG.done (QW.then_ (CW.ret ?_))
  refine QW.ret1 rfl rfl ?_
  have hB := (Ex.tr hB0 hxwl1)
  have e : i = dg p := by omega
  rw [e] at hown
  exact ⟨(Own.ext hown hE3).low (by have := hB0.size; omega), hB⟩

set_option maxRecDepth 100000 in
set_option maxHeartbeats 1000000 in
theorem rsum_ret (u0 v0 : Value) (p q : List Nat) (w : World) (hl : RdL w 1 encN u0 p) (hm : RdL w 1 encN v0 q) (hlen : p.length ≤ 100000) (hlen2 : q.length ≤ 100000) (hp : El p) (hq : El q) :
  Ret Tryz.prog 94 [u0, v0] w (fun v w' => Own w' w.heap.size 5 1 encN v (tr (pa p q)) ∧ Ex w w') := by
 have hB0 : Ex w w := Ex.rfl_ _
 refine Ret.of Tryz.func94 rfl Tryz.ntmps94 rfl ?_
 refine CW.seq (CW.region ?_)
 refine RG.vl rfl rfl rfl (Ev.assign rfl rfl) ?_
 refine RG.done (QW.then_ (CW.seq (CW.region ?_)))
 refine RG.vl rfl rfl rfl (Ev.assign rfl rfl) ?_
 refine RG.done (QW.then_ (CW.seq (CW.seq (CW.region ?_))))
 refine RG.vl rfl rfl rfl (Ev.assign rfl rfl) ?_
 refine RG.done (QW.then_ (CW.block ?_))
 refine CW.loop2 [(0, _), (1, _), (4, _)] ⟨rfl, rfl, rfl, trivial⟩ (fun (i : Nat) (u : Value) => [(6, .int .i64 i), (5, u)]) (fun i u w' => (i ≤ max p.length q.length ∧ Own w' w.heap.size 5 1 encN u ((pa p q).take i)) ∧ Ex w w') (fun i u => max p.length q.length - i) (0) (.slice none 0 0) ⟨rfl, rfl, trivial⟩ ⟨⟨Nat.zero_le _, Own.nil_ _ _ _ _ _⟩, hB0⟩ ?_
 rintro i u wl1 ⟨⟨hi, hown⟩, hxwl1⟩
 refine CW.sub (S' := [(6, _), (5, _), (0, _), (1, _), (4, _)]) ⟨rfl, rfl, rfl, rfl, rfl, trivial⟩ ?_
 refine CW.seq (CW.seq ?_)
 have hpal := pa_len p q
 have htl : ((pa p q).take i).length = i := by rw [List.length_take]; omega
 refine CW.region ?_
 refine RG.vl rfl rfl rfl (Ev.move rfl rfl) ?_
 refine RG.vl rfl rfl rfl (Ev.move rfl rfl) ?_
 refine RG.vl rfl rfl rfl (Ev.lenL rfl rfl rfl Tryz.underlying58 ((hl.ext hxwl1))) ?_
 refine RG.vl rfl rfl rfl (Ev.lss rfl rfl rfl) ?_
 refine RG.vl rfl rfl rfl (Ev.move rfl rfl) ?_
 refine RG.split (d := 11) rfl (fun hg2 => ?_) (fun hg2 => ?_)
 ·refine RG.pass rfl rfl rfl ?_
  refine RG.pass rfl rfl rfl ?_
  refine RG.pass rfl rfl rfl ?_
  refine RG.pass rfl rfl rfl ?_
  refine RG.vl rfl rfl rfl (Ev.pickT rfl rfl rfl) ?_
  refine RG.done (QW.then_ ?_)
  refine CW.condT rfl ?_
  refine CW.skip (QW.then_ (CW.seq (CW.block ?_)))
  have h1 := hp.cf i
  have h2 := hq.cf i
  refine CW.region ?_
  refine RG.vl rfl rfl rfl (Ev.move rfl rfl) ?_
  refine RG.vl rfl rfl rfl (Ev.move rfl rfl) ?_
  refine RG.vl rfl rfl rfl (Ev.move rfl rfl) ?_
  refine RG.call rfl rfl rfl rfl rfl rfl rfl en_91 (coef_ret _ _ _ _ ((hl.ext hxwl1))) ?_
  rintro _ w3 ⟨rfl, hx3⟩
  replace hxwl1 := Ex.tr hxwl1 hx3
  have hE4 := hx3
  refine RG.vl rfl rfl rfl (Ev.move rfl rfl) ?_
  refine RG.vl rfl rfl rfl (Ev.move rfl rfl) ?_
  refine RG.call rfl rfl rfl rfl rfl rfl rfl en_91 (coef_ret _ _ _ _ ((hm.ext hxwl1))) ?_
  rintro _ w5 ⟨rfl, hx5⟩
  replace hxwl1 := Ex.tr hxwl1 hx5
  replace hE4 := Ex.tr hE4 hx5
  have hE6 := hx5
  refine RG.vl rfl rfl rfl (Ev.xor8 rfl rfl rfl (by omega) (by omega)) ?_
  refine RG.litO (os := [.tmp 26]) (enc := encN) ([cf p i ^^^ cf q i]) rfl rfl rfl rfl rfl rfl rfl Tryz.underlying58 inf_5 rfl rfl rfl rfl rfl encN_len rfl rfl (fun v7 wk8 hxwk8 hown9 hnew10 => ?_)
  replace hxwl1 := Ex.tr hxwl1 hxwk8
  replace hE4 := Ex.tr hE4 hxwk8
  replace hE6 := Ex.tr hE6 hxwk8
  have hE11 := hxwk8
  refine RG.appO rfl rfl rfl rfl rfl rfl rfl Tryz.underlying58 inf_5 rfl rfl encN_len (fun _ => rfl) (Own.ext hown hE4) ((hown9.rdl encN_len)) (by show _ + 1 ≤ maxLen; simp only [maxLen]; omega) (by show (_ + 1) * _ ≤ _; omega) (hxwl1.size) (fun v12 wa13 hown14 hgr15 hat16 => ?_)
  replace hxwl1 := own_block (Own.ext hown hE4) hxwl1 hgr15 (Nat.le_refl _) hxwl1.size
  refine RG.vl rfl rfl rfl (Ev.assign rfl rfl) ?_
  refine RG.done ?_
  refine QW.sub (S' := [(0, _), (1, _), (4, _), (5, _), (6, _)]) ⟨rfl, rfl, rfl, rfl, rfl, trivial⟩ ?_
  refine QW.blockN (QW.then_ (CW.region ?_))
  refine RG.vl rfl rfl rfl (Ev.move rfl rfl) ?_
  refine RG.vl rfl rfl rfl (Ev.addI rfl rfl rfl (by omega)) ?_
  refine RG.vl rfl rfl rfl (Ev.assign rfl rfl) ?_
  refine RG.done ?_
  refine QW.round2 (i + 1) (v12) ⟨rfl, rfl, trivial⟩ ⟨rfl, rfl, rfl, trivial⟩ ⟨⟨by omega, by rw [take_more _ i _ (pa_at (by omega))]; exact hown14⟩, (Ex.tr hB0 hxwl1)⟩ (by omega)
 ·refine RG.vl rfl rfl rfl (Ev.move rfl rfl) ?_
  refine RG.vl rfl rfl rfl (Ev.move rfl rfl) ?_
  refine RG.vl rfl rfl rfl (Ev.lenL rfl rfl rfl Tryz.underlying58 ((hm.ext hxwl1))) ?_
  refine RG.vl rfl rfl rfl (Ev.lss rfl rfl rfl) ?_
  refine RG.vl rfl rfl rfl (Ev.pickF rfl rfl rfl) ?_
  refine RG.done (QW.then_ ?_)
  refine CW.condP rfl (fun hc17 => ?_) (fun hc17 => ?_)
  ·refine CW.skip (QW.then_ (CW.seq (CW.block ?_)))
   have h1 := hp.cf i
   have h2 := hq.cf i
   refine CW.region ?_
   refine RG.vl rfl rfl rfl (Ev.move rfl rfl) ?_
   refine RG.vl rfl rfl rfl (Ev.move rfl rfl) ?_
   refine RG.vl rfl rfl rfl (Ev.move rfl rfl) ?_
   refine RG.call rfl rfl rfl rfl rfl rfl rfl en_91 (coef_ret _ _ _ _ ((hl.ext hxwl1))) ?_
   rintro _ w18 ⟨rfl, hx18⟩
   replace hxwl1 := Ex.tr hxwl1 hx18
   have hE19 := hx18
   refine RG.vl rfl rfl rfl (Ev.move rfl rfl) ?_
   refine RG.vl rfl rfl rfl (Ev.move rfl rfl) ?_
   refine RG.call rfl rfl rfl rfl rfl rfl rfl en_91 (coef_ret _ _ _ _ ((hm.ext hxwl1))) ?_
   rintro _ w20 ⟨rfl, hx20⟩
   replace hxwl1 := Ex.tr hxwl1 hx20
   replace hE19 := Ex.tr hE19 hx20
   have hE21 := hx20
   refine RG.vl rfl rfl rfl (Ev.xor8 rfl rfl rfl (by omega) (by omega)) ?_
   refine RG.litO (os := [.tmp 26]) (enc := encN) ([cf p i ^^^ cf q i]) rfl rfl rfl rfl rfl rfl rfl Tryz.underlying58 inf_5 rfl rfl rfl rfl rfl encN_len rfl rfl (fun v22 wk23 hxwk23 hown24 hnew25 => ?_)
   replace hxwl1 := Ex.tr hxwl1 hxwk23
   replace hE19 := Ex.tr hE19 hxwk23
   replace hE21 := Ex.tr hE21 hxwk23
   have hE26 := hxwk23
   refine RG.appO rfl rfl rfl rfl rfl rfl rfl Tryz.underlying58 inf_5 rfl rfl encN_len (fun _ => rfl) (Own.ext hown hE19) ((hown24.rdl encN_len)) (by show _ + 1 ≤ maxLen; simp only [maxLen]; omega) (by show (_ + 1) * _ ≤ _; omega) (hxwl1.size) (fun v27 wa28 hown29 hgr30 hat31 => ?_)
   replace hxwl1 := own_block (Own.ext hown hE19) hxwl1 hgr30 (Nat.le_refl _) hxwl1.size
   refine RG.vl rfl rfl rfl (Ev.assign rfl rfl) ?_
   refine RG.done ?_
   refine QW.sub (S' := [(0, _), (1, _), (4, _), (5, _), (6, _)]) ⟨rfl, rfl, rfl, rfl, rfl, trivial⟩ ?_
   refine QW.blockN (QW.then_ (CW.region ?_))
   refine RG.vl rfl rfl rfl (Ev.move rfl rfl) ?_
   refine RG.vl rfl rfl rfl (Ev.addI rfl rfl rfl (by omega)) ?_
   refine RG.vl rfl rfl rfl (Ev.assign rfl rfl) ?_
   refine RG.done ?_
   refine QW.round2 (i + 1) (v27) ⟨rfl, rfl, trivial⟩ ⟨rfl, rfl, rfl, trivial⟩ ⟨⟨by omega, by rw [take_more _ i _ (pa_at (by omega))]; exact hown29⟩, (Ex.tr hB0 hxwl1)⟩ (by omega)
  ·refine CW.exit (QW.thenExit (QW.thenExit (QW.blockHit (QW.then_ (CW.seq (CW.region ?_))))))
   refine RG.vl rfl rfl rfl (Ev.move rfl rfl) ?_
   refine RG.call rfl rfl rfl rfl rfl rfl rfl en_92 (rtrim_ret _ _ _ ((hown.rdl encN_len)) (by omega)) ?_
   have hpre32 := (Ex.tr hB0 hxwl1)
   rintro vrt32 w32 ⟨hrt32, hx32⟩
   replace hxwl1 := Ex.tr hxwl1 hx32
   have hE33 := hx32
   refine RG.vl rfl rfl rfl (Ev.assign rfl rfl) ?_
   refine RG.done (QW.then_ (CW.ret ?_))
   refine QW.ret1 rfl rfl ?_
   have hB := (Ex.tr hB0 hxwl1)
   have e : i = max p.length q.length := by omega
   have e2 : (pa p q).take i = pa p q := by rw [List.take_of_length_le (by rw [pa_len]; omega)]
   rw [e2] at hrt32
   exact ⟨hrt32.low (by have := hpre32.size; omega), hB⟩

set_option maxRecDepth 100000 in
set_option maxHeartbeats 1000000 in
theorem rprod_ret (u0 v0 : Value) (p q : List Nat) (w : World) (hl : RdL w 1 encN u0 p) (hm : RdL w 1 encN v0 q) (hlen : p.length ≤ 40000) (hlen2 : q.length ≤ 40000) (hp : El p) (hq : El q) :
  Ret Tryz.prog 54 [u0, v0] w (fun v w' => Own w' w.heap.size 5 1 encN v (tr (pm p q)) ∧ Ex w w') := by
 have hB0 : Ex w w := Ex.rfl_ _
 refine Ret.of Tryz.func54 rfl Tryz.ntmps54 rfl ?_
 refine CW.seq (CW.region ?_)
 refine RG.vl rfl rfl rfl (Ev.assign rfl rfl) ?_
 refine RG.done (QW.then_ (CW.seq (CW.region ?_)))
 refine RG.vl rfl rfl rfl (Ev.assign rfl rfl) ?_
 refine RG.done (QW.then_ (CW.seq (CW.seq (CW.region ?_))))
 refine RG.vl rfl rfl rfl (Ev.assign rfl rfl) ?_
 refine RG.done (QW.then_ (CW.block ?_))
 refine CW.loop2 [(0, _), (1, _), (4, _)] ⟨rfl, rfl, rfl, trivial⟩ (fun (i : Nat) (u : Value) => [(6, .int .i64 i), (5, u)]) (fun i u w' => (i ≤ (dg p + dg q - 1) ∧ Own w' w.heap.size 5 1 encN u (cfL (cf (pm p q)) i)) ∧ Ex w w') (fun i u => (dg p + dg q - 1) - i) (0) (.slice none 0 0) ⟨rfl, rfl, trivial⟩ ⟨⟨Nat.zero_le _, Own.nil_ _ _ _ _ _⟩, hB0⟩ ?_
 rintro i u wl1 ⟨⟨hi, hown⟩, hxwl1⟩
 refine CW.sub (S' := [(6, _), (5, _), (0, _), (1, _), (4, _)]) ⟨rfl, rfl, rfl, rfl, rfl, trivial⟩ ?_
 refine CW.seq (CW.seq ?_)
 have hdl := dg_len p
 have hdl2 := dg_len q
 have htl := cfL_len (cf (pm p q)) i
 refine CW.region ?_
 refine RG.vl rfl rfl rfl (Ev.move rfl rfl) ?_
 refine RG.vl rfl rfl rfl (Ev.move rfl rfl) ?_
 refine RG.call rfl rfl rfl rfl rfl rfl rfl en_89 (rdeg_ret _ _ _ ((hl.ext hxwl1)) (by omega)) ?_
 rintro _ w2 ⟨rfl, hx2⟩
 replace hxwl1 := Ex.tr hxwl1 hx2
 have hE3 := hx2
 refine RG.vl rfl rfl rfl (Ev.move rfl rfl) ?_
 refine RG.call rfl rfl rfl rfl rfl rfl rfl en_89 (rdeg_ret _ _ _ ((hm.ext hxwl1)) (by omega)) ?_
 rintro _ w4 ⟨rfl, hx4⟩
 replace hxwl1 := Ex.tr hxwl1 hx4
 replace hE3 := Ex.tr hE3 hx4
 have hE5 := hx4
 refine RG.vl rfl rfl rfl (Ev.addI rfl rfl rfl (by omega)) ?_
 refine RG.vl rfl rfl rfl (Ev.leq rfl rfl rfl) ?_
 refine RG.done (QW.then_ ?_)
 refine CW.condP rfl (fun hc6 => ?_) (fun hc6 => ?_)
 ·refine CW.skip (QW.then_ (CW.seq (CW.block (CW.seq (CW.region ?_)))))
  refine RG.vl rfl rfl rfl (Ev.assign rfl rfl) ?_
  refine RG.done (QW.then_ (CW.seq (CW.seq (CW.region ?_))))
  refine RG.vl rfl rfl rfl (Ev.assign rfl rfl) ?_
  refine RG.done (QW.then_ (CW.block ?_))
  refine CW.loop1 [(0, _), (1, _), (4, _), (5, _), (6, _)] ⟨rfl, rfl, rfl, rfl, rfl, trivial⟩ (fun (k : Nat) => [(8, .int .i64 k), (7, .int .u8 (cvS p q i k : Int))]) (fun k w' => (k ≤ i + 1 ∧ Own w' w.heap.size 5 1 encN u (cfL (cf (pm p q)) i)) ∧ Ex w w') (fun k => i + 1 - k) (0) ⟨rfl, rfl, trivial⟩ ⟨⟨Nat.zero_le _, (Own.ext hown hE3)⟩, (Ex.tr hB0 hxwl1)⟩ ?_
  rintro k wl7 ⟨⟨hk, hown⟩, hxwl7⟩
  refine CW.sub (S' := [(8, _), (7, _), (0, _), (1, _), (4, _), (5, _), (6, _)]) ⟨rfl, rfl, rfl, rfl, rfl, rfl, rfl, trivial⟩ ?_
  refine CW.seq (CW.seq (CW.region ?_))
  refine RG.vl rfl rfl rfl (Ev.move rfl rfl) ?_
  refine RG.vl rfl rfl rfl (Ev.move rfl rfl) ?_
  refine RG.vl rfl rfl rfl (Ev.leq rfl rfl rfl) ?_
  refine RG.done (QW.then_ ?_)
  refine CW.condP rfl (fun hc8 => ?_) (fun hc8 => ?_)
  ·refine CW.skip (QW.then_ (CW.seq (CW.block ?_)))
   have h1 := hp.cf k
   have h2 := hq.cf (i - k)
   have h3 := cvS_lt p q i k
   have h4 := gm_lt (cf p k) (cf q (i - k))
   refine CW.region ?_
   refine RG.vl rfl rfl rfl (Ev.move rfl rfl) ?_
   refine RG.vl rfl rfl rfl (Ev.move rfl rfl) ?_
   refine RG.vl rfl rfl rfl (Ev.move rfl rfl) ?_
   refine RG.call rfl rfl rfl rfl rfl rfl rfl en_91 (coef_ret _ _ _ _ ((hl.ext hxwl7))) ?_
   rintro _ w9 ⟨rfl, hx9⟩
   replace hxwl7 := Ex.tr hxwl7 hx9
   have hE10 := hx9
   refine RG.vl rfl rfl rfl (Ev.move rfl rfl) ?_
   refine RG.vl rfl rfl rfl (Ev.move rfl rfl) ?_
   refine RG.vl rfl rfl rfl (Ev.move rfl rfl) ?_
   refine RG.vl rfl rfl rfl ((Ev.subI rfl rfl rfl (by omega)).conv (congrArg (Value.int .i64) (show (i : Int) - (k : Int) = ((i - k : Nat) : Int) by omega))) ?_
   refine RG.call rfl rfl rfl rfl rfl rfl rfl en_91 (coef_ret _ _ _ _ ((hm.ext hxwl7))) ?_
   rintro _ w11 ⟨rfl, hx11⟩
   replace hxwl7 := Ex.tr hxwl7 hx11
   replace hE10 := Ex.tr hE10 hx11
   have hE12 := hx11
   refine RG.call rfl rfl rfl rfl rfl rfl rfl en_90 (rmul_ret _ _ _ (by exact h1) (by exact h2)) ?_
   rintro _ w13 ⟨rfl, hx13⟩
   replace hxwl7 := Ex.tr hxwl7 hx13
   replace hE10 := Ex.tr hE10 hx13
   replace hE12 := Ex.tr hE12 hx13
   have hE14 := hx13
   refine RG.vl rfl rfl rfl (Ev.xor8 rfl rfl rfl (by omega) (by omega)) ?_
   refine RG.vl rfl rfl rfl (Ev.assign rfl rfl) ?_
   refine RG.done ?_
   refine QW.sub (S' := [(0, _), (1, _), (4, _), (5, _), (6, _), (7, _), (8, _)]) ⟨rfl, rfl, rfl, rfl, rfl, rfl, rfl, trivial⟩ ?_
   refine QW.blockN (QW.then_ (CW.region ?_))
   refine RG.vl rfl rfl rfl (Ev.move rfl rfl) ?_
   refine RG.vl rfl rfl rfl (Ev.addI rfl rfl rfl (by omega)) ?_
   refine RG.vl rfl rfl rfl (Ev.assign rfl rfl) ?_
   refine RG.done ?_
   refine QW.round1 (k + 1) ⟨rfl, rfl, trivial⟩ ⟨rfl, rfl, rfl, rfl, rfl, trivial⟩ ⟨⟨by omega, (Own.ext hown hE10)⟩, (Ex.tr hB0 hxwl7)⟩ (by omega)
  ·refine CW.exit (QW.thenExit (QW.thenExit (QW.blockHit (QW.then_ ?_))))
   have hcv : cvS p q i k = cf (pm p q) i := by obtain rfl : k = i + 1 := (by omega); exact cvS_pm p q i
   refine CW.region ?_
   refine RG.vl rfl rfl rfl (Ev.move rfl rfl) ?_
   refine RG.vl rfl rfl rfl ((Ev.move rfl rfl).conv (congrArg (fun n : Nat => Value.int .u8 (n : Int)) hcv)) ?_
   refine RG.litO (os := [.tmp 35]) (enc := encN) ([cf (pm p q) i]) rfl rfl rfl rfl rfl rfl rfl Tryz.underlying58 inf_5 rfl rfl rfl rfl rfl encN_len rfl rfl (fun v15 wk16 hxwk16 hown17 hnew18 => ?_)
   replace hxwl7 := Ex.tr hxwl7 hxwk16
   have hE19 := hxwk16
   refine RG.appO rfl rfl rfl rfl rfl rfl rfl Tryz.underlying58 inf_5 rfl rfl encN_len (fun _ => rfl) (Own.ext hown hE19) ((hown17.rdl encN_len)) (by show _ + 1 ≤ maxLen; simp only [maxLen]; omega) (by show (_ + 1) * _ ≤ _; omega) (hxwl7.size) (fun v20 wa21 hown22 hgr23 hat24 => ?_)
   replace hxwl7 := own_block (Own.ext hown hE19) hxwl7 hgr23 (Nat.le_refl _) hxwl7.size
   refine RG.vl rfl rfl rfl (Ev.assign rfl rfl) ?_
   refine RG.done (QW.blockN (QW.then_ (CW.region ?_)))
   refine RG.vl rfl rfl rfl (Ev.move rfl rfl) ?_
   refine RG.vl rfl rfl rfl (Ev.addI rfl rfl rfl (by omega)) ?_
   refine RG.vl rfl rfl rfl (Ev.assign rfl rfl) ?_
   refine RG.done ?_
   refine QW.round2 (i + 1) (v20) ⟨rfl, rfl, trivial⟩ ⟨rfl, rfl, rfl, trivial⟩ ⟨⟨by omega, by rw [cfL_more]; exact hown22⟩, (Ex.tr hB0 hxwl7)⟩ (by omega)
 ·refine CW.exit (QW.thenExit (QW.thenExit (QW.blockHit (QW.then_ (CW.seq (CW.region ?_))))))
  refine RG.vl rfl rfl rfl (Ev.move rfl rfl) ?_
  refine RG.call rfl rfl rfl rfl rfl rfl rfl en_92 (rtrim_ret _ _ _ (((Own.ext hown hE3).rdl encN_len)) (by omega)) ?_
  have hpre25 := (Ex.tr hB0 hxwl1)
  rintro vrt25 w25 ⟨hrt25, hx25⟩
  replace hxwl1 := Ex.tr hxwl1 hx25
  replace hE3 := Ex.tr hE3 hx25
  replace hE5 := Ex.tr hE5 hx25
  have hE26 := hx25
  refine RG.vl rfl rfl rfl (Ev.assign rfl rfl) ?_
  refine RG.done (QW.then_ (CW.ret ?_))
  refine QW.ret1 rfl rfl ?_
  have hB := (Ex.tr hB0 hxwl1)
  have e : i = (dg p + dg q - 1) := by omega
  rw [e, rprod_end] at hrt25
  exact ⟨hrt25.low (by have := hpre25.size; omega), hB⟩

set_option maxRecDepth 100000 in
set_option maxHeartbeats 1000000 in
theorem rshift_ret (u0 : Value) (p : List Nat) (c n : Nat) (w : World) (hl : RdL w 1 encN u0 p) (hlen : p.length ≤ 100000) (hn : n ≤ 100000) (hp : El p) (hc : c < 64) :
  Ret Tryz.prog 95 [u0, .int .u8 (c : Int), .int .i64 (n : Int)] w (fun v w' => Own w' w.heap.size 5 1 encN v (shl p c n) ∧ Ex w w') := by
 have hB0 : Ex w w := Ex.rfl_ _
 refine Ret.of Tryz.func95 rfl Tryz.ntmps95 rfl ?_
 refine CW.seq (CW.region ?_)
 refine RG.vl rfl rfl rfl (Ev.assign rfl rfl) ?_
 refine RG.done (QW.then_ (CW.seq (CW.region ?_)))
 refine RG.vl rfl rfl rfl (Ev.move rfl rfl) ?_
 refine RG.makeO (m := n) (enc := encN) 0 rfl rfl rfl rfl rfl rfl (rfl) Tryz.underlying58 inf_5 encN_len rfl rfl (by omega) (by simp only [maxLen]; omega) (fun vz wk1 hxwk1 hown2 hnew3 => ?_)
 have hE4 := hxwk1
 refine RG.vl rfl rfl rfl (Ev.assign rfl rfl) ?_
 refine RG.done (QW.then_ (CW.seq (CW.seq (CW.region ?_))))
 refine RG.vl rfl rfl rfl (Ev.assign rfl rfl) ?_
 refine RG.done (QW.then_ (CW.block ?_))
 refine CW.loop2 [(0, _), (1, _), (6, _)] ⟨rfl, rfl, rfl, trivial⟩ (fun (i : Nat) (u : Value) => [(8, .int .i64 i), (7, u)]) (fun i u w' => (i ≤ p.length ∧ Own w' w.heap.size 5 1 encN u (shl (p.take i) c n)) ∧ Ex w w') (fun i u => p.length - i) (0) (vz) ⟨rfl, rfl, trivial⟩ ⟨⟨Nat.zero_le _, by rw [List.take_zero, show shl [] c n = List.replicate n 0 from by unfold shl; simp]; exact hown2⟩, (Ex.tr hB0 hE4)⟩ ?_
 rintro i u wl5 ⟨⟨hi, hown⟩, hxwl5⟩
 refine CW.sub (S' := [(8, _), (7, _), (0, _), (1, _), (6, _)]) ⟨rfl, rfl, rfl, rfl, rfl, trivial⟩ ?_
 refine CW.seq (CW.seq ?_)
 have htl := shl_len (p.take i) c n
 rw [List.length_take] at htl
 refine CW.region ?_
 refine RG.vl rfl rfl rfl (Ev.move rfl rfl) ?_
 refine RG.vl rfl rfl rfl (Ev.move rfl rfl) ?_
 refine RG.vl rfl rfl rfl (Ev.lenL rfl rfl rfl Tryz.underlying58 ((hl.ext hxwl5))) ?_
 refine RG.vl rfl rfl rfl (Ev.lss rfl rfl rfl) ?_
 refine RG.done (QW.then_ ?_)
 refine CW.condP rfl (fun hc6 => ?_) (fun hc6 => ?_)
 ·refine CW.skip (QW.then_ (CW.seq (CW.block ?_)))
  obtain ⟨a, ha⟩ : ∃ c, p[i]? = some c := ⟨_, List.getElem?_eq_getElem (by omega)⟩
  have ha64 := hp.get ha
  refine CW.region ?_
  refine RG.vl rfl rfl rfl (Ev.move rfl rfl) ?_
  refine RG.vl rfl rfl rfl (Ev.move rfl rfl) ?_
  refine RG.vl rfl rfl rfl (Ev.move rfl rfl) ?_
  refine RG.idxL rfl rfl rfl rfl rfl rfl Tryz.underlying58 sz_5 ((hl.ext hxwl5)) (ha) (fun p7 hp7b hp7 => ?_)
  refine RG.vl rfl rfl rfl (Ev.ld0 rfl rfl Tryz.underlying5 rfl (hp7) (rfl)) ?_
  refine RG.vl rfl rfl rfl (Ev.move rfl rfl) ?_
  refine RG.call rfl rfl rfl rfl rfl rfl rfl en_90 (rmul_ret _ _ _ (by exact ha64) (by exact hc)) ?_
  rintro _ w8 ⟨rfl, hx8⟩
  replace hxwl5 := Ex.tr hxwl5 hx8
  have hE9 := hx8
  refine RG.litO (os := [.tmp 23]) (enc := encN) ([gm a c]) rfl rfl rfl rfl rfl rfl rfl Tryz.underlying58 inf_5 rfl rfl rfl rfl rfl encN_len rfl rfl (fun v10 wk11 hxwk11 hown12 hnew13 => ?_)
  have hsep14 : Sep v10 _ := Sep.of_new (Own.ext hown hE9) hnew13
  replace hxwl5 := Ex.tr hxwl5 hxwk11
  replace hE9 := Ex.tr hE9 hxwk11
  have hE15 := hxwk11
  refine RG.appO rfl rfl rfl rfl rfl rfl rfl Tryz.underlying58 inf_5 rfl rfl encN_len (fun _ => rfl) (Own.ext hown hE9) ((hown12.rdl encN_len)) (by show _ + 1 ≤ maxLen; simp only [maxLen]; omega) (by show (_ + 1) * _ ≤ _; omega) (hxwl5.size) (fun v16 wa17 hown18 hgr19 hat20 => ?_)
  have hsep22 := Sep.app (Sep.symm hsep14) hown12 hat20
  have hown21 := Own.grown hown12 hgr19 (fun k a b => (Sep.symm hsep14) k b a)
  replace hxwl5 := own_block (Own.ext hown hE9) hxwl5 hgr19 (Nat.le_refl _) hxwl5.size
  refine RG.vl rfl rfl rfl (Ev.assign rfl rfl) ?_
  refine RG.done ?_
  refine QW.sub (S' := [(0, _), (1, _), (6, _), (7, _), (8, _)]) ⟨rfl, rfl, rfl, rfl, rfl, trivial⟩ ?_
  refine QW.blockN (QW.then_ (CW.region ?_))
  refine RG.vl rfl rfl rfl (Ev.move rfl rfl) ?_
  refine RG.vl rfl rfl rfl (Ev.addI rfl rfl rfl (by omega)) ?_
  refine RG.vl rfl rfl rfl (Ev.assign rfl rfl) ?_
  refine RG.done ?_
  refine QW.round2 (i + 1) (v16) ⟨rfl, rfl, trivial⟩ ⟨rfl, rfl, rfl, trivial⟩ ⟨⟨by omega, by rw [shl_more ha]; exact hown18⟩, (Ex.tr hB0 hxwl5)⟩ (by omega)
 ·refine CW.exit (QW.thenExit (QW.thenExit (QW.blockHit (QW.then_ (CW.seq (CW.region ?_))))))
  refine RG.vl rfl rfl rfl (Ev.move rfl rfl) ?_
  refine RG.vl rfl rfl rfl (Ev.assign rfl rfl) ?_
  refine RG.done (QW.then_ (CW.ret ?_))
  refine QW.ret1 rfl rfl ?_
  have hB := (Ex.tr hB0 hxwl5)
  have e : i = p.length := by omega
  rw [e, List.take_length] at hown
  exact ⟨hown.low (by have := hB0.size; omega), hB⟩

set_option maxRecDepth 100000 in
set_option maxHeartbeats 2000000 in
theorem rdiv_ret (u0 v0 : Value) (p q : List Nat) (w : World) (hl : RdL w 1 encN u0 p) (hm : RdL w 1 encN v0 q) (hlen : p.length ≤ 40000) (hlen2 : q.length ≤ 40000) (hp : El p) (hq : El q) (hq0 : 0 < dg q) :
  Ret Tryz.prog 56 [u0, v0] w (fun v w' => ∃ r1 r2 d r, v = .tuple #[r1, r2] ∧ RdL w' 1 encN r1 d ∧ RdL w' 1 encN r2 r ∧ IsDiv p q d r ∧ tr d = d ∧ tr r = r ∧ El d ∧ El r ∧ Ex w w') := by
 have hB0 : Ex w w := Ex.rfl_ _
 refine Ret.of Tryz.func56 rfl Tryz.ntmps56 rfl ?_
 refine CW.seq (CW.region ?_)
 refine RG.vl rfl rfl rfl (Ev.assign rfl rfl) ?_
 refine RG.vl rfl rfl rfl (Ev.assign rfl rfl) ?_
 refine RG.done (QW.then_ (CW.seq (CW.region ?_)))
 refine RG.vl rfl rfl rfl (Ev.assign rfl rfl) ?_
 refine RG.done (QW.then_ (CW.seq (CW.region ?_)))
 refine RG.vl rfl rfl rfl (Ev.move rfl rfl) ?_
 refine RG.call rfl rfl rfl rfl rfl rfl rfl en_92 (rtrim_ret _ _ _ (hl) (by omega)) ?_
 have hpre1 := hB0
 rintro vrt1 w1 ⟨hrt1, hx1⟩
 have hE2 := hx1
 refine RG.vl rfl rfl rfl (Ev.assign rfl rfl) ?_
 refine RG.done (QW.then_ (CW.seq (CW.block ?_)))
 replace hl := (hl.ext hE2)
 replace hm := (hm.ext hE2)
 have hR3 := (Ex.tr hB0 hE2)
 refine CW.loop4 [(1, _), (4, _), (5, _)] ⟨rfl, rfl, rfl, trivial⟩ (fun (ud : Value) (D : List Nat) (ur : Value) (R : List Nat) => [(6, ud), (7, ur)]) (fun ud D ur R w' => (Rdv p q D R ∧ RdL w' 1 encN ud D ∧ RdL w' 1 encN ur R) ∧ Ex w1 w') (fun ud D ur R => dg R) (.slice none 0 0) ([]) (_) (tr p) ⟨rfl, rfl, trivial⟩ ⟨⟨rdv_start hp, RdL.nil_ _, hrt1.rdl encN_len⟩, (Ex.rfl_ _)⟩ ?_
 rintro ud D ur R wl4 ⟨⟨hdv, hD, hR⟩, hxwl4⟩
 refine CW.sub (S' := [(6, _), (7, _), (1, _), (4, _), (5, _)]) ⟨rfl, rfl, rfl, rfl, rfl, trivial⟩ ?_
 have hdp := dg_len p
 have hdq := dg_len q
 have hD1 := dg_of_tr hdv.dt
 have hR1 := dg_of_tr hdv.rt
 have hDd := hdv.dd
 have hRd := hdv.rd
 refine CW.seq (CW.seq (CW.region ?_))
 refine RG.vl rfl rfl rfl (Ev.move rfl rfl) ?_
 refine RG.call rfl rfl rfl rfl rfl rfl rfl en_89 (rdeg_ret _ _ _ (hR) (by omega)) ?_
 rintro _ w5 ⟨rfl, hx5⟩
 replace hxwl4 := Ex.tr hxwl4 hx5
 have hE6 := hx5
 refine RG.vl rfl rfl rfl (Ev.move rfl rfl) ?_
 refine RG.call rfl rfl rfl rfl rfl rfl rfl en_89 (rdeg_ret _ _ _ ((hm.ext hxwl4)) (by omega)) ?_
 rintro _ w7 ⟨rfl, hx7⟩
 replace hxwl4 := Ex.tr hxwl4 hx7
 replace hE6 := Ex.tr hE6 hx7
 have hE8 := hx7
 refine RG.vl rfl rfl rfl (Ev.geq rfl rfl rfl) ?_
 refine RG.done (QW.then_ ?_)
 refine CW.condP rfl (fun hc9 => ?_) (fun hc9 => ?_)
 ·refine CW.skip (QW.then_ (CW.block (CW.seq ?_)))
  have hge : dg q ≤ dg R := by omega
  have hRt : R[dg R - 1]? = some (cf R (dg R - 1)) := getElem?_cf (by omega)
  have hqt : q[dg q - 1]? = some (cf q (dg q - 1)) := getElem?_cf (by omega)
  have hR64 := hdv.re.cf (dg R - 1)
  have hq64 := hq.cf (dg q - 1)
  have hgi := (gi_lt (cf q (dg q - 1))).2
  have hq00 := cf_top q hq0
  have hC64 : (gm (cf R (dg R - 1)) (gi (cf q (dg q - 1)))) < 64 := gm_lt _ _
  obtain ⟨hst, hstl⟩ := rdv_step hq hq0 hdv hge
  have h1e : El [1] := el1 (by omega)
  have hDe := hdv.de
  have hRe := hdv.re
  have h1l : [1].length = 1 := rfl
  have hs1 := shl_len [1] (gm (cf R (dg R - 1)) (gi (cf q (dg q - 1)))) (dg R - dg q)
  have hs2 := shl_len q (gm (cf R (dg R - 1)) (gi (cf q (dg q - 1)))) (dg R - dg q)
  refine CW.region ?_
  refine RG.vl rfl rfl rfl (Ev.move rfl rfl) ?_
  refine RG.call rfl rfl rfl rfl rfl rfl rfl en_89 (rdeg_ret _ _ _ ((hR.ext hE6)) (by omega)) ?_
  rintro _ w10 ⟨rfl, hx10⟩
  replace hxwl4 := Ex.tr hxwl4 hx10
  replace hE6 := Ex.tr hE6 hx10
  replace hE8 := Ex.tr hE8 hx10
  have hE11 := hx10
  refine RG.vl rfl rfl rfl (Ev.move rfl rfl) ?_
  refine RG.call rfl rfl rfl rfl rfl rfl rfl en_89 (rdeg_ret _ _ _ ((hm.ext hxwl4)) (by omega)) ?_
  rintro _ w12 ⟨rfl, hx12⟩
  replace hxwl4 := Ex.tr hxwl4 hx12
  replace hE6 := Ex.tr hE6 hx12
  replace hE8 := Ex.tr hE8 hx12
  replace hE11 := Ex.tr hE11 hx12
  have hE13 := hx12
  refine RG.vl rfl rfl rfl ((Ev.subI rfl rfl rfl (by omega)).conv (congrArg (Value.int .i64) (show (dg R : Int) - 1 - ((dg q : Int) - 1) = ((dg R - dg q : Nat) : Int) by omega))) ?_
  refine RG.vl rfl rfl rfl (Ev.assign rfl rfl) ?_
  refine RG.done (QW.then_ (CW.seq ?_))
  refine CW.draw [] (.ex) 13 rfl mixed (fun wd14 hxwd14 => ?_)
  replace hxwl4 := Ex.tr hxwl4 hxwd14
  replace hE6 := Ex.tr hE6 hxwd14
  replace hE8 := Ex.tr hE8 hxwd14
  replace hE11 := Ex.tr hE11 hxwd14
  replace hE13 := Ex.tr hE13 hxwd14
  refine AG.takeW 0 rfl (by kernel_rfl) (by kernel_rfl) rfl rfl rfl (fun _ => Ev.move rfl rfl) ?_
  refine AG.takeW 1 rfl (by kernel_rfl) (by kernel_rfl) rfl rfl rfl (fun _ => Ev.move rfl rfl) ?_
  refine AG.takeW 5 rfl (by kernel_rfl) (by kernel_rfl) rfl rfl rfl (fun _ => Ev.move rfl rfl) ?_
  refine AG.takeW 6 rfl (by kernel_rfl) (by kernel_rfl) rfl rfl rfl (fun _ => Ev.move rfl rfl) ?_
  refine AG.only 2 rfl (by kernel_rfl) ?_
  refine RG.call rfl rfl rfl rfl rfl rfl rfl en_89 (rdegN _ R _ ((hR.ext hE6)) (by omega) (by omega)) ?_
  rintro _ w16 ⟨rfl, hx16⟩
  replace hxwl4 := Ex.tr hxwl4 hx16
  replace hE6 := Ex.tr hE6 hx16
  replace hE8 := Ex.tr hE8 hx16
  replace hE11 := Ex.tr hE11 hx16
  replace hE13 := Ex.tr hE13 hx16
  have hE17 := hx16
  refine RG.done ?_
  refine QW.an (fun _ => hE17) ?_
  refine AG.idxL _ 3 rfl (by kernel_rfl) (by kernel_rfl) rfl rfl rfl rfl rfl rfl Tryz.underlying58 sz_5 ((hR.ext hE6)) (hRt) (fun p18 hp18b hp18 => ?_)
  refine AG.take 4 rfl (by kernel_rfl) (by kernel_rfl) rfl rfl rfl (fun wq hq => Ev.ld0 rfl rfl Tryz.underlying5 rfl (hp18.ext hq hp18b) (rfl)) ?_
  refine AG.only 7 rfl (by kernel_rfl) ?_
  refine RG.call rfl rfl rfl rfl rfl rfl rfl en_89 (rdegN _ q _ ((hm.ext hxwl4)) (by omega) (by omega)) ?_
  rintro _ w20 ⟨rfl, hx20⟩
  replace hxwl4 := Ex.tr hxwl4 hx20
  replace hE6 := Ex.tr hE6 hx20
  replace hE8 := Ex.tr hE8 hx20
  replace hE11 := Ex.tr hE11 hx20
  replace hE13 := Ex.tr hE13 hx20
  replace hE17 := Ex.tr hE17 hx20
  have hE21 := hx20
  refine RG.done ?_
  refine QW.an (fun _ => hE21) ?_
  refine AG.idxL _ 8 rfl (by kernel_rfl) (by kernel_rfl) rfl rfl rfl rfl rfl rfl Tryz.underlying58 sz_5 ((hm.ext hxwl4)) (hqt) (fun p22 hp22b hp22 => ?_)
  refine AG.take 9 rfl (by kernel_rfl) (by kernel_rfl) rfl rfl rfl (fun wq hq => Ev.ld0 rfl rfl Tryz.underlying5 rfl (hp22.ext hq hp22b) (rfl)) ?_
  refine AG.only 10 rfl (by kernel_rfl) ?_
  refine RG.call rfl rfl rfl rfl rfl rfl rfl en_93 (rinvN (cf q (dg q - 1)) _ hq64 hq00) ?_
  rintro _ w24 ⟨rfl, hx24⟩
  replace hxwl4 := Ex.tr hxwl4 hx24
  replace hE6 := Ex.tr hE6 hx24
  replace hE8 := Ex.tr hE8 hx24
  replace hE11 := Ex.tr hE11 hx24
  replace hE13 := Ex.tr hE13 hx24
  replace hE17 := Ex.tr hE17 hx24
  replace hE21 := Ex.tr hE21 hx24
  have hE25 := hx24
  refine RG.done ?_
  refine QW.an (fun _ => hE25) ?_
  refine AG.only 11 rfl (by kernel_rfl) ?_
  refine RG.call rfl rfl rfl rfl rfl rfl rfl en_90 (rmul_ret _ _ _ (by exact hR64) (by exact hgi)) ?_
  rintro _ w27 ⟨rfl, hx27⟩
  replace hxwl4 := Ex.tr hxwl4 hx27
  replace hE6 := Ex.tr hE6 hx27
  replace hE8 := Ex.tr hE8 hx27
  replace hE11 := Ex.tr hE11 hx27
  replace hE13 := Ex.tr hE13 hx27
  replace hE17 := Ex.tr hE17 hx27
  replace hE21 := Ex.tr hE21 hx27
  replace hE25 := Ex.tr hE25 hx27
  have hE28 := hx27
  refine RG.done ?_
  refine QW.an (fun _ => hE28) ?_
  refine AG.takeW 12 rfl (by kernel_rfl) (by kernel_rfl) rfl rfl rfl (fun _ => Ev.assign rfl rfl) ?_
  refine AG.done (by kernel_rfl) ?_
  refine QW.sub (S' := [(1, _), (4, _), (5, _), (6, _), (7, _), (8, _), (9, _)]) ⟨rfl, rfl, rfl, rfl, rfl, rfl, rfl, trivial⟩ ?_
  refine QW.then_ (CW.seq (CW.region ?_))
  refine RG.vl rfl rfl rfl (Ev.move rfl rfl) ?_
  refine RG.litO (os := [_]) (enc := encN) ([1]) rfl rfl rfl rfl rfl rfl rfl Tryz.underlying58 inf_5 rfl rfl rfl rfl rfl encN_len rfl rfl (fun v29 wk30 hxwk30 hown31 hnew32 => ?_)
  replace hxwl4 := Ex.tr hxwl4 hxwk30
  replace hE6 := Ex.tr hE6 hxwk30
  replace hE8 := Ex.tr hE8 hxwk30
  replace hE11 := Ex.tr hE11 hxwk30
  replace hE13 := Ex.tr hE13 hxwk30
  replace hE17 := Ex.tr hE17 hxwk30
  replace hE21 := Ex.tr hE21 hxwk30
  replace hE25 := Ex.tr hE25 hxwk30
  replace hE28 := Ex.tr hE28 hxwk30
  have hE33 := hxwk30
  refine RG.vl rfl rfl rfl (Ev.move rfl rfl) ?_
  refine RG.vl rfl rfl rfl (Ev.move rfl rfl) ?_
  refine RG.call rfl rfl rfl rfl rfl rfl rfl en_95 (rshift_ret _ _ _ _ _ ((hown31.rdl encN_len)) (by omega) (by omega) (by exact h1e) (by exact hC64)) ?_
  have hpre34 := (Ex.tr hR3 hxwl4)
  rintro vrh34 w34 ⟨hrh34, hx34⟩
  replace hxwl4 := Ex.tr hxwl4 hx34
  replace hE6 := Ex.tr hE6 hx34
  replace hE8 := Ex.tr hE8 hx34
  replace hE11 := Ex.tr hE11 hx34
  replace hE13 := Ex.tr hE13 hx34
  replace hE17 := Ex.tr hE17 hx34
  replace hE21 := Ex.tr hE21 hx34
  replace hE25 := Ex.tr hE25 hx34
  replace hE28 := Ex.tr hE28 hx34
  replace hE33 := Ex.tr hE33 hx34
  have hE35 := hx34
  refine RG.call rfl rfl rfl rfl rfl rfl rfl en_94 (rsum_ret _ _ _ _ _ ((hD.ext hE6)) ((hrh34.rdl encN_len)) (by omega) (by omega) (by exact hDe) (by exact el_shl _ _ _)) ?_
  have hpre36 := (Ex.tr hR3 hxwl4)
  rintro vrs36 w36 ⟨hrs36, hx36⟩
  replace hxwl4 := Ex.tr hxwl4 hx36
  replace hE6 := Ex.tr hE6 hx36
  replace hE8 := Ex.tr hE8 hx36
  replace hE11 := Ex.tr hE11 hx36
  replace hE13 := Ex.tr hE13 hx36
  replace hE17 := Ex.tr hE17 hx36
  replace hE21 := Ex.tr hE21 hx36
  replace hE25 := Ex.tr hE25 hx36
  replace hE28 := Ex.tr hE28 hx36
  replace hE33 := Ex.tr hE33 hx36
  replace hE35 := Ex.tr hE35 hx36
  have hE37 := hx36
  refine RG.vl rfl rfl rfl (Ev.assign rfl rfl) ?_
  refine RG.done (QW.then_ (CW.region ?_))
  refine RG.vl rfl rfl rfl (Ev.move rfl rfl) ?_
  refine RG.vl rfl rfl rfl (Ev.move rfl rfl) ?_
  refine RG.vl rfl rfl rfl (Ev.move rfl rfl) ?_
  refine RG.vl rfl rfl rfl (Ev.move rfl rfl) ?_
  refine RG.call rfl rfl rfl rfl rfl rfl rfl en_95 (rshift_ret _ _ _ _ _ ((hm.ext hxwl4)) (by omega) (by omega) (by exact hq) (by exact hC64)) ?_
  have hpre38 := (Ex.tr hR3 hxwl4)
  rintro vrh38 w38 ⟨hrh38, hx38⟩
  replace hxwl4 := Ex.tr hxwl4 hx38
  replace hE6 := Ex.tr hE6 hx38
  replace hE8 := Ex.tr hE8 hx38
  replace hE11 := Ex.tr hE11 hx38
  replace hE13 := Ex.tr hE13 hx38
  replace hE17 := Ex.tr hE17 hx38
  replace hE21 := Ex.tr hE21 hx38
  replace hE25 := Ex.tr hE25 hx38
  replace hE28 := Ex.tr hE28 hx38
  replace hE33 := Ex.tr hE33 hx38
  replace hE35 := Ex.tr hE35 hx38
  replace hE37 := Ex.tr hE37 hx38
  have hE39 := hx38
  refine RG.call rfl rfl rfl rfl rfl rfl rfl en_94 (rsum_ret _ _ _ _ _ ((hR.ext hE6)) ((hrh38.rdl encN_len)) (by omega) (by omega) (by exact hRe) (by exact el_shl _ _ _)) ?_
  have hpre40 := (Ex.tr hR3 hxwl4)
  rintro vrs40 w40 ⟨hrs40, hx40⟩
  replace hxwl4 := Ex.tr hxwl4 hx40
  replace hE6 := Ex.tr hE6 hx40
  replace hE8 := Ex.tr hE8 hx40
  replace hE11 := Ex.tr hE11 hx40
  replace hE13 := Ex.tr hE13 hx40
  replace hE17 := Ex.tr hE17 hx40
  replace hE21 := Ex.tr hE21 hx40
  replace hE25 := Ex.tr hE25 hx40
  replace hE28 := Ex.tr hE28 hx40
  replace hE33 := Ex.tr hE33 hx40
  replace hE35 := Ex.tr hE35 hx40
  replace hE37 := Ex.tr hE37 hx40
  replace hE39 := Ex.tr hE39 hx40
  have hE41 := hx40
  refine RG.vl rfl rfl rfl (Ev.assign rfl rfl) ?_
  refine RG.done ?_
  refine QW.sub (S' := [(1, _), (4, _), (5, _), (6, _), (7, _)]) ⟨rfl, rfl, rfl, rfl, rfl, trivial⟩ ?_
  refine QW.blockN ?_
  refine QW.round4 (_) (_) (_) (_) ⟨rfl, rfl, trivial⟩ ⟨rfl, rfl, rfl, trivial⟩ ⟨⟨hst, (Own.ext hrs36 hE39).rdl encN_len, hrs40.rdl encN_len⟩, hxwl4⟩ (hstl)
 ·refine CW.exit (QW.thenExit (QW.thenExit (QW.blockHit (QW.then_ (CW.seq (CW.region ?_))))))
  refine RG.vl rfl rfl rfl (Ev.move rfl rfl) ?_
  refine RG.vl rfl rfl rfl (Ev.move rfl rfl) ?_
  refine RG.vl rfl rfl rfl (Ev.assign rfl rfl) ?_
  refine RG.vl rfl rfl rfl (Ev.assign rfl rfl) ?_
  refine RG.done (QW.then_ (CW.ret ?_))
  refine QW.ret2 rfl rfl rfl ?_
  have hB := (Ex.tr hR3 hxwl4)
  exact ⟨_, _, D, R, rfl, (hD.ext hE6), (hR.ext hE6), rdv_end hdv (by omega), hdv.dt, hdv.rt, hdv.de, hdv.re, hB⟩

set_option maxRecDepth 100000 in
set_option maxHeartbeats 1000000 in
theorem rword_ret (u : Value) (l : List Nat) (w : World) (hl : RdL w 1 encN u l) (hlen : l.length ≤ 100000) :
  Ret Tryz.prog 76 [u] w (fun v w' => v = .bool (isW l) ∧ Ex w w') := by
 have hB0 : Ex w w := Ex.rfl_ _
 refine Ret.of Tryz.func76 rfl Tryz.ntmps76 rfl ?_
 refine CW.seq (CW.region ?_)
 refine RG.vl rfl rfl rfl (Ev.assign rfl rfl) ?_
 refine RG.done (QW.then_ (CW.seq (CW.seq (CW.region ?_))))
 refine RG.vl rfl rfl rfl (Ev.move rfl rfl) ?_
 refine RG.vl rfl rfl rfl (Ev.lenL rfl rfl rfl Tryz.underlying58 (hl)) ?_
 refine RG.vl rfl rfl rfl (Ev.lss rfl rfl rfl) ?_
 refine RG.vl rfl rfl rfl (Ev.move rfl rfl) ?_
 refine RG.split (d := 7) rfl (fun hg1 => ?_) (fun hg1 => ?_)
 ·refine RG.pass rfl rfl rfl ?_
  refine RG.pass rfl rfl rfl ?_
  refine RG.pass rfl rfl rfl ?_
  refine RG.vl rfl rfl rfl (Ev.pickT rfl rfl rfl) ?_
  refine RG.done (QW.then_ ?_)
  refine CW.condT rfl ?_
  refine CW.seq (CW.region ?_)
  refine RG.vl rfl rfl rfl (Ev.assign rfl rfl) ?_
  refine RG.done (QW.then_ (CW.ret (QW.thenRet ?_)))
  refine QW.ret1 rfl rfl ?_
  have hB := hB0
  refine ⟨congrArg Value.bool ?_, hB⟩
  rw [eq_comm, Bool.eq_false_iff]
  intro h
  obtain ⟨h1, h2, h3⟩ := isW_iff.1 h
  omega
 ·refine RG.vl rfl rfl rfl (Ev.move rfl rfl) ?_
  refine RG.vl rfl rfl rfl (Ev.lenL rfl rfl rfl Tryz.underlying58 (hl)) ?_
  refine RG.vl rfl rfl rfl (Ev.gtr rfl rfl rfl) ?_
  refine RG.vl rfl rfl rfl (Ev.pickF rfl rfl rfl) ?_
  refine RG.done (QW.then_ ?_)
  refine CW.condP rfl (fun hc2 => ?_) (fun hc2 => ?_)
  ·refine CW.seq (CW.region ?_)
   refine RG.vl rfl rfl rfl (Ev.assign rfl rfl) ?_
   refine RG.done (QW.then_ (CW.ret (QW.thenRet ?_)))
   refine QW.ret1 rfl rfl ?_
   have hB := hB0
   refine ⟨congrArg Value.bool ?_, hB⟩
   rw [eq_comm, Bool.eq_false_iff]
   intro h
   obtain ⟨h1, h2, h3⟩ := isW_iff.1 h
   omega
  ·refine CW.skip (QW.then_ (CW.seq (CW.seq (CW.region ?_))))
   refine RG.vl rfl rfl rfl (Ev.assign rfl rfl) ?_
   refine RG.done (QW.then_ (CW.block ?_))
   refine CW.loop1 [(0, _)] ⟨rfl, trivial⟩ (fun (i : Nat) => [(3, .int .i64 i)]) (fun i w' => (i ≤ l.length ∧ ∀ j a, j < i → l[j]? = some a → a < 64) ∧ Ex w w') (fun i => l.length - i) (0) ⟨rfl, trivial⟩ ⟨⟨Nat.zero_le _, fun j a h => absurd h (by omega)⟩, hB0⟩ ?_
   rintro i wl3 ⟨⟨hi, hall⟩, hxwl3⟩
   refine CW.sub (S' := [(3, _), (0, _)]) ⟨rfl, rfl, trivial⟩ ?_
   refine CW.seq (CW.seq (CW.region ?_))
   refine RG.vl rfl rfl rfl (Ev.move rfl rfl) ?_
   refine RG.vl rfl rfl rfl (Ev.move rfl rfl) ?_
   refine RG.vl rfl rfl rfl (Ev.lenL rfl rfl rfl Tryz.underlying58 ((hl.ext hxwl3))) ?_
   refine RG.vl rfl rfl rfl (Ev.lss rfl rfl rfl) ?_
   refine RG.done (QW.then_ ?_)
   refine CW.condP rfl (fun hc4 => ?_) (fun hc4 => ?_)
   ·refine CW.skip (QW.then_ (CW.seq (CW.block (CW.seq ?_))))
    obtain ⟨c, hc⟩ : ∃ c, l[i]? = some c := ⟨_, List.getElem?_eq_getElem (by omega)⟩
    refine CW.region ?_
    refine RG.vl rfl rfl rfl (Ev.move rfl rfl) ?_
    refine RG.vl rfl rfl rfl (Ev.move rfl rfl) ?_
    refine RG.idxL rfl rfl rfl rfl rfl rfl Tryz.underlying58 sz_5 ((hl.ext hxwl3)) (hc) (fun p5 hp5b hp5 => ?_)
    refine RG.vl rfl rfl rfl (Ev.ld0 rfl rfl Tryz.underlying5 rfl (hp5) (rfl)) ?_
    refine RG.vl rfl rfl rfl (Ev.gtr rfl rfl rfl) ?_
    refine RG.done (QW.then_ ?_)
    refine CW.condP rfl (fun hc6 => ?_) (fun hc6 => ?_)
    ·refine CW.seq (CW.region ?_)
     refine RG.vl rfl rfl rfl (Ev.assign rfl rfl) ?_
     refine RG.done (QW.then_ (CW.ret (QW.blockR (QW.thenRet (QW.thenRet (QW.blockR ?_))))))
     refine QW.thenRet ?_
     refine QW.ret1 rfl rfl ?_
     have hB := (Ex.tr hB0 hxwl3)
     refine ⟨congrArg Value.bool ?_, hB⟩
     rw [eq_comm, Bool.eq_false_iff]
     intro h
     obtain ⟨h1, h2, h3⟩ := isW_iff.1 h
     have := h3 c (List.mem_of_getElem? hc)
     omega
    ·refine CW.skip (QW.blockN (QW.then_ (CW.region ?_)))
     refine RG.vl rfl rfl rfl (Ev.move rfl rfl) ?_
     refine RG.vl rfl rfl rfl (Ev.addI rfl rfl rfl (by omega)) ?_
     refine RG.vl rfl rfl rfl (Ev.assign rfl rfl) ?_
     refine RG.done ?_
     refine QW.round1 (i + 1) ⟨rfl, trivial⟩ ⟨rfl, trivial⟩ ⟨⟨by omega, el_step hc (by omega) hall⟩, (Ex.tr hB0 hxwl3)⟩ (by omega)
   ·refine CW.exit (QW.thenExit (QW.thenExit (QW.blockHit (QW.then_ (CW.seq (CW.region ?_))))))
    refine RG.vl rfl rfl rfl (Ev.assign rfl rfl) ?_
    refine RG.done (QW.then_ (CW.ret ?_))
    refine QW.ret1 rfl rfl ?_
    have hB := (Ex.tr hB0 hxwl3)
    refine ⟨congrArg Value.bool ?_, hB⟩
    rw [eq_comm, isW_iff]
    exact ⟨by omega, by omega, el_of (by omega) hall⟩

set_option maxRecDepth 100000 in
set_option maxHeartbeats 2000000 in
theorem rsynd_ret (u : Value) (l : List Nat) (w : World) (hl : RdL w 1 encN u l) (hlen : l.length ≤ 100000) (hel : El l) :
  Ret Tryz.prog 115 [u] w (fun v w' => Own w' w.heap.size 5 1 encN v (syL l) ∧ Ex w w') := by
 have hB0 : Ex w w := Ex.rfl_ _
 refine Ret.of Tryz.func115 rfl Tryz.ntmps115 rfl ?_
 refine CW.seq (CW.region ?_)
 refine RG.vl rfl rfl rfl (Ev.assign rfl rfl) ?_
 refine RG.done (QW.then_ (CW.seq (CW.region ?_)))
 refine RG.vl rfl rfl rfl (Ev.assign rfl rfl) ?_
 refine RG.done (QW.then_ (CW.seq (CW.seq (CW.region ?_))))
 refine RG.vl rfl rfl rfl (Ev.assign rfl rfl) ?_
 refine RG.done (QW.then_ (CW.block ?_))
 refine CW.loop2 [(0, _), (2, _)] ⟨rfl, rfl, trivial⟩ (fun (j : Nat) (u3 : Value) => [(4, .int .i64 ((j : Int) + 1)), (3, u3)]) (fun j u3 w' => (j ≤ 4 ∧ Own w' w.heap.size 5 1 encN u3 ((syL l).take j)) ∧ Ex w w') (fun j u3 => 4 - j) (0) (.slice none 0 0) ⟨rfl, rfl, trivial⟩ ⟨⟨Nat.zero_le _, Own.nil_ _ _ _ _ _⟩, hB0⟩ ?_
 rintro j u3 wl1 ⟨⟨hj, hou⟩, hxwl1⟩
 refine CW.sub (S' := [(4, _), (3, _), (0, _), (2, _)]) ⟨rfl, rfl, rfl, rfl, trivial⟩ ?_
 have hll : ((syL l).take j).length ≤ 4 := by rw [List.length_take]; show min j 4 ≤ 4; omega
 refine CW.seq (CW.seq (CW.region ?_))
 refine RG.vl rfl rfl rfl (Ev.move rfl rfl) ?_
 refine RG.vl rfl rfl rfl (Ev.leq rfl rfl rfl) ?_
 refine RG.done (QW.then_ ?_)
 refine CW.condP rfl (fun hc2 => ?_) (fun hc2 => ?_)
 ·refine CW.skip (QW.then_ (CW.seq (CW.block (CW.seq ?_))))
  have hpl := pw_lt (j + 1) (by omega)
  refine CW.region ?_
  refine RG.vl rfl rfl rfl (Ev.move rfl rfl) ?_
  refine RG.call rfl rfl rfl rfl rfl rfl rfl en_55 ((by have k := rpow_ret 2 (j + 1) wl1 (by omega) (by omega); rw [gp_two _ (by omega)] at k; exact k)) ?_
  rintro _ w3 ⟨rfl, hx3⟩
  replace hxwl1 := Ex.tr hxwl1 hx3
  have hE4 := hx3
  refine RG.vl rfl rfl rfl (Ev.assign rfl rfl) ?_
  refine RG.vl rfl rfl rfl (Ev.assign rfl rfl) ?_
  refine RG.done (QW.then_ (CW.seq (CW.seq (CW.region ?_))))
  refine RG.vl rfl rfl rfl (Ev.assign rfl rfl) ?_
  refine RG.done (QW.then_ (CW.block ?_))
  refine CW.loop1 [(0, _), (2, _), (3, _), (4, _), (6, _)] ⟨rfl, rfl, rfl, rfl, rfl, trivial⟩ (fun (i : Nat) => [(7, .int .i64 i), (5, .int .u8 (evl (l.take i).reverse (pw (j + 1)) : Nat))]) (fun i w' => (i ≤ l.length ∧ Own w' w.heap.size 5 1 encN u3 ((syL l).take j)) ∧ Ex w w') (fun i => l.length - i) (0) ⟨rfl, rfl, trivial⟩ ⟨⟨Nat.zero_le _, (Own.ext hou hE4)⟩, (Ex.tr hB0 hxwl1)⟩ ?_
  rintro i wl5 ⟨⟨hi, hou⟩, hxwl5⟩
  refine CW.sub (S' := [(7, _), (5, _), (0, _), (2, _), (3, _), (4, _), (6, _)]) ⟨rfl, rfl, rfl, rfl, rfl, rfl, rfl, trivial⟩ ?_
  refine CW.seq (CW.seq (CW.region ?_))
  refine RG.vl rfl rfl rfl (Ev.move rfl rfl) ?_
  refine RG.vl rfl rfl rfl (Ev.move rfl rfl) ?_
  refine RG.vl rfl rfl rfl (Ev.lenL rfl rfl rfl Tryz.underlying58 ((hl.ext hxwl5))) ?_
  refine RG.vl rfl rfl rfl (Ev.lss rfl rfl rfl) ?_
  refine RG.done (QW.then_ ?_)
  refine CW.condP rfl (fun hc6 => ?_) (fun hc6 => ?_)
  ·refine CW.skip (QW.then_ (CW.seq (CW.block ?_)))
   have hc : l[i]? = some (cf l i) := getElem?_cf (by omega)
   have hc64 := hel.cf i
   have hv64 : evl (l.take i).reverse (pw (j + 1)) < 64 := evl_lt _ _ ((hel.take i).rev)
   have hg64 := gm_lt (evl (l.take i).reverse (pw (j + 1))) (pw (j + 1))
   have hst := syn_step (l := l) (i := i) (x := pw (j + 1)) (by omega)
   refine CW.draw [] (.ex) 9 rfl mixed (fun wd7 hxwd7 => ?_)
   replace hxwl5 := Ex.tr hxwl5 hxwd7
   have hE8 := hxwd7
   refine AG.takeW 0 rfl (by kernel_rfl) (by kernel_rfl) rfl rfl rfl (fun _ => Ev.move rfl rfl) ?_
   refine AG.takeW 1 rfl (by kernel_rfl) (by kernel_rfl) rfl rfl rfl (fun _ => Ev.move rfl rfl) ?_
   refine AG.takeW 3 rfl (by kernel_rfl) (by kernel_rfl) rfl rfl rfl (fun _ => Ev.move rfl rfl) ?_
   refine AG.takeW 4 rfl (by kernel_rfl) (by kernel_rfl) rfl rfl rfl (fun _ => Ev.move rfl rfl) ?_
   refine AG.idxL _ 5 rfl (by kernel_rfl) (by kernel_rfl) rfl rfl rfl rfl rfl rfl Tryz.underlying58 sz_5 ((hl.ext hxwl5)) (hc) (fun p9 hp9b hp9 => ?_)
   refine AG.take 6 rfl (by kernel_rfl) (by kernel_rfl) rfl rfl rfl (fun wq hq => Ev.ld0 rfl rfl Tryz.underlying5 rfl (hp9.ext hq hp9b) (rfl)) ?_
   refine AG.only 2 rfl (by kernel_rfl) ?_
   refine RG.call rfl rfl rfl rfl rfl rfl rfl en_90 (rmul_ret _ _ _ (by exact hv64) (by exact hpl.2)) ?_
   rintro _ w11 ⟨rfl, hx11⟩
   replace hxwl5 := Ex.tr hxwl5 hx11
   replace hE8 := Ex.tr hE8 hx11
   have hE12 := hx11
   refine RG.done ?_
   refine QW.an (fun _ => hE12) ?_
   refine AG.takeW 7 rfl (by kernel_rfl) (by kernel_rfl) rfl rfl rfl (fun _ => (Ev.xor8 rfl rfl rfl (by omega) (by omega)).conv (congrArg (fun n : Nat => Value.int .u8 (n : Int)) hst.symm)) ?_
   refine AG.takeW 8 rfl (by kernel_rfl) (by kernel_rfl) rfl rfl rfl (fun _ => Ev.assign rfl rfl) ?_
   refine AG.done (by kernel_rfl) ?_
   refine QW.blockN (QW.then_ (CW.region ?_))
   refine RG.vl rfl rfl rfl (Ev.move rfl rfl) ?_
   refine RG.vl rfl rfl rfl (Ev.addI rfl rfl rfl (by omega)) ?_
   refine RG.vl rfl rfl rfl (Ev.assign rfl rfl) ?_
   refine RG.done ?_
   refine QW.sub (S' := [(0, _), (2, _), (3, _), (4, _), (5, _), (6, _), (7, _)]) ⟨rfl, rfl, rfl, rfl, rfl, rfl, rfl, trivial⟩ ?_
   refine QW.round1 (i + 1) ⟨rfl, rfl, trivial⟩ ⟨rfl, rfl, rfl, rfl, rfl, trivial⟩ ⟨⟨by omega, (Own.ext hou hE8)⟩, (Ex.tr hB0 hxwl5)⟩ (by omega)
  ·refine CW.exit (QW.thenExit (QW.thenExit (QW.blockHit (QW.then_ ?_))))
   obtain rfl : i = l.length := by omega
   have hsy : evl (l.take l.length).reverse (pw (j + 1)) = sy l j := by rw [List.take_length]; rfl
   refine CW.region ?_
   refine RG.vl rfl rfl rfl (Ev.move rfl rfl) ?_
   refine RG.vl rfl rfl rfl ((Ev.move rfl rfl).conv (congrArg (fun n : Nat => Value.int .u8 (n : Int)) hsy)) ?_
   refine RG.litO (os := [.tmp 29]) (enc := encN) ([sy l j]) rfl rfl rfl rfl rfl rfl rfl Tryz.underlying58 inf_5 rfl rfl rfl rfl rfl encN_len rfl rfl (fun v13 wk14 hxwk14 hown15 hnew16 => ?_)
   have hsep17 : Sep v13 _ := Sep.of_new hou hnew16
   replace hxwl5 := Ex.tr hxwl5 hxwk14
   have hE18 := hxwk14
   refine RG.appO rfl rfl rfl rfl rfl rfl rfl Tryz.underlying58 inf_5 rfl rfl encN_len (fun _ => rfl) (Own.ext hou hE18) ((hown15.rdl encN_len)) (by show _ + 1 ≤ maxLen; simp only [maxLen]; omega) (by show (_ + 1) * _ ≤ _; omega) (hxwl5.size) (fun v19 wa20 hown21 hgr22 hat23 => ?_)
   have hsep25 := Sep.app (Sep.symm hsep17) hown15 hat23
   have hown24 := Own.grown hown15 hgr22 (fun k a b => (Sep.symm hsep17) k b a)
   replace hxwl5 := own_block (Own.ext hou hE18) hxwl5 hgr22 (Nat.le_refl _) hxwl5.size
   refine RG.vl rfl rfl rfl (Ev.assign rfl rfl) ?_
   refine RG.done (QW.blockN (QW.then_ (CW.region ?_)))
   refine RG.vl rfl rfl rfl (Ev.move rfl rfl) ?_
   refine RG.vl rfl rfl rfl (Ev.addI rfl rfl rfl (by omega)) ?_
   refine RG.vl rfl rfl rfl (Ev.assign rfl rfl) ?_
   refine RG.done ?_
   refine QW.round2 (j + 1) (v19) ⟨rfl, rfl, trivial⟩ ⟨rfl, rfl, trivial⟩ ⟨⟨by omega, by rw [syL_more l (by omega)]; exact hown21⟩, (Ex.tr hB0 hxwl5)⟩ (by omega)
 ·refine CW.exit (QW.thenExit (QW.thenExit (QW.blockHit (QW.then_ (CW.seq (CW.region ?_))))))
  refine RG.vl rfl rfl rfl (Ev.move rfl rfl) ?_
  refine RG.vl rfl rfl rfl (Ev.assign rfl rfl) ?_
  refine RG.done (QW.then_ (CW.ret ?_))
  refine QW.ret1 rfl rfl ?_
  have hB := (Ex.tr hB0 hxwl1)
  obtain rfl : j = 4 := by omega
  exact ⟨hou, hB⟩

set_option maxRecDepth 100000 in
set_option maxHeartbeats 1000000 in
theorem rvalid_ret (u : Value) (l : List Nat) (w : World) (hl : RdL w 1 encN u l) (hlen : l.length ≤ 100000) :
  Ret Tryz.prog 116 [u] w (fun v w' => v = .bool (vldB l) ∧ Ex w w') := by
 have hB0 : Ex w w := Ex.rfl_ _
 refine Ret.of Tryz.func116 rfl Tryz.ntmps116 rfl ?_
 refine CW.seq (CW.region ?_)
 refine RG.vl rfl rfl rfl (Ev.assign rfl rfl) ?_
 refine RG.done (QW.then_ (CW.seq (CW.seq (CW.region ?_))))
 refine RG.vl rfl rfl rfl (Ev.move rfl rfl) ?_
 refine RG.call rfl rfl rfl rfl rfl rfl rfl en_76 (rword_ret _ _ _ (hl) (by omega)) ?_
 rintro _ w1 ⟨rfl, hx1⟩
 have hE2 := hx1
 refine RG.vl rfl rfl rfl (Ev.not rfl rfl) ?_
 refine RG.done (QW.then_ ?_)
 refine CW.cond rfl (fun hc3 => ?_) (fun hc3 => ?_)
 ·refine CW.seq (CW.region ?_)
  refine RG.vl rfl rfl rfl (Ev.assign rfl rfl) ?_
  refine RG.done (QW.then_ (CW.ret (QW.thenRet ?_)))
  refine QW.ret1 rfl rfl ?_
  have hB := (Ex.tr hB0 hE2)
  rw [isW_no (by simpa using (by assumption : (!isW l) = true))]
  exact ⟨rfl, hB⟩
 ·refine CW.skip (QW.then_ (CW.seq ?_))
  have hyes : isW l = true := by simpa using (by assumption : (!isW l) = false)
  obtain ⟨hw1, hw2, hel⟩ := isW_iff.1 hyes
  have hs4 : (syL l).length = 4 := rfl
  refine CW.region ?_
  refine RG.vl rfl rfl rfl (Ev.move rfl rfl) ?_
  refine RG.call rfl rfl rfl rfl rfl rfl rfl en_115 (rsynd_ret _ _ _ ((hl.ext hE2)) (by omega) (by exact hel)) ?_
  have hpre4 := (Ex.tr hB0 hE2)
  rintro rs4 w4 ⟨hrs4, hx4⟩
  replace hE2 := Ex.tr hE2 hx4
  have hE5 := hx4
  refine RG.vl rfl rfl rfl (Ev.assign rfl rfl) ?_
  refine RG.done (QW.then_ (CW.seq (CW.region ?_)))
  refine RG.vl rfl rfl rfl (Ev.move rfl rfl) ?_
  refine RG.idxO (i := 0) rfl rfl rfl rfl rfl rfl Tryz.underlying58 sz_5 encN_len (hrs4) (syL_at l (k := 0) (by decide)) (fun g7 hg7 hBg7 hp6b hp6 => ?_)
  refine RG.vl rfl rfl rfl (Ev.ld0 rfl rfl Tryz.underlying5 rfl (hp6) (rfl)) ?_
  refine RG.vl rfl rfl rfl (Ev.eqI rfl rfl rfl) ?_
  refine RG.vl rfl rfl rfl (Ev.move rfl rfl) ?_
  refine RG.split (d := 13) rfl (fun hg8 => ?_) (fun hg8 => ?_)
  ·refine RG.vl rfl rfl rfl (Ev.move rfl rfl) ?_
   refine RG.idxO (i := 1) rfl rfl rfl rfl rfl rfl Tryz.underlying58 sz_5 encN_len (hrs4) (syL_at l (k := 1) (by decide)) (fun g10 hg10 hBg10 hp9b hp9 => ?_)
   refine RG.vl rfl rfl rfl (Ev.ld0 rfl rfl Tryz.underlying5 rfl (hp9) (rfl)) ?_
   refine RG.vl rfl rfl rfl (Ev.eqI rfl rfl rfl) ?_
   refine RG.vl rfl rfl rfl (Ev.pickT rfl rfl rfl) ?_
   refine RG.vl rfl rfl rfl (Ev.move rfl rfl) ?_
   refine RG.split (d := 19) rfl (fun hg11 => ?_) (fun hg11 => ?_)
   ·refine RG.vl rfl rfl rfl (Ev.move rfl rfl) ?_
    refine RG.idxO (i := 2) rfl rfl rfl rfl rfl rfl Tryz.underlying58 sz_5 encN_len (hrs4) (syL_at l (k := 2) (by decide)) (fun g13 hg13 hBg13 hp12b hp12 => ?_)
    refine RG.vl rfl rfl rfl (Ev.ld0 rfl rfl Tryz.underlying5 rfl (hp12) (rfl)) ?_
    refine RG.vl rfl rfl rfl (Ev.eqI rfl rfl rfl) ?_
    refine RG.vl rfl rfl rfl (Ev.pickT rfl rfl rfl) ?_
    refine RG.vl rfl rfl rfl (Ev.move rfl rfl) ?_
    refine RG.split (d := 25) rfl (fun hg14 => ?_) (fun hg14 => ?_)
    ·refine RG.vl rfl rfl rfl (Ev.move rfl rfl) ?_
     refine RG.idxO (i := 3) rfl rfl rfl rfl rfl rfl Tryz.underlying58 sz_5 encN_len (hrs4) (syL_at l (k := 3) (by decide)) (fun g16 hg16 hBg16 hp15b hp15 => ?_)
     refine RG.vl rfl rfl rfl (Ev.ld0 rfl rfl Tryz.underlying5 rfl (hp15) (rfl)) ?_
     refine RG.vl rfl rfl rfl (Ev.eqI rfl rfl rfl) ?_
     refine RG.vl rfl rfl rfl (Ev.pickT rfl rfl rfl) ?_
     refine RG.vl rfl rfl rfl (Ev.assign rfl rfl) ?_
     refine RG.done ?_
     refine QW.sub (S' := [(2, _)]) ⟨rfl, trivial⟩ ?_
     refine QW.then_ (CW.ret ?_)
     refine QW.ret1 rfl rfl ?_
     have hB := (Ex.tr hB0 hE2)
     first | exact ⟨congrArg Value.bool (vldD hyes (by omega) (by omega) (by omega)), hB⟩ | exact ⟨congrArg Value.bool (vldF fun _ => by omega), hB⟩
    ·refine RG.pass rfl rfl rfl ?_
     refine RG.pass rfl rfl rfl ?_
     refine RG.pass rfl rfl rfl ?_
     refine RG.pass rfl rfl rfl ?_
     refine RG.vl rfl rfl rfl (Ev.pickF rfl rfl rfl) ?_
     refine RG.vl rfl rfl rfl (Ev.assign rfl rfl) ?_
     refine RG.done ?_
     refine QW.sub (S' := [(2, _)]) ⟨rfl, trivial⟩ ?_
     refine QW.then_ (CW.ret ?_)
     refine QW.ret1 rfl rfl ?_
     have hB := (Ex.tr hB0 hE2)
     first | exact ⟨congrArg Value.bool (vldD hyes (by omega) (by omega) (by omega)), hB⟩ | exact ⟨congrArg Value.bool (vldF fun _ => by omega), hB⟩
   ·refine RG.pass rfl rfl rfl ?_
    refine RG.pass rfl rfl rfl ?_
    refine RG.pass rfl rfl rfl ?_
    refine RG.pass rfl rfl rfl ?_
    refine RG.vl rfl rfl rfl (Ev.pickF rfl rfl rfl) ?_
    refine RG.vl rfl rfl rfl (Ev.move rfl rfl) ?_
    refine RG.pass rfl rfl rfl ?_
    refine RG.pass rfl rfl rfl ?_
    refine RG.pass rfl rfl rfl ?_
    refine RG.pass rfl rfl rfl ?_
    refine RG.vl rfl rfl rfl (Ev.pickF rfl rfl rfl) ?_
    refine RG.vl rfl rfl rfl (Ev.assign rfl rfl) ?_
    refine RG.done ?_
    refine QW.sub (S' := [(2, _)]) ⟨rfl, trivial⟩ ?_
    refine QW.then_ (CW.ret ?_)
    refine QW.ret1 rfl rfl ?_
    have hB := (Ex.tr hB0 hE2)
    first | exact ⟨congrArg Value.bool (vldD hyes (by omega) (by omega) (by omega)), hB⟩ | exact ⟨congrArg Value.bool (vldF fun _ => by omega), hB⟩
  ·refine RG.pass rfl rfl rfl ?_
   refine RG.pass rfl rfl rfl ?_
   refine RG.pass rfl rfl rfl ?_
   refine RG.pass rfl rfl rfl ?_
   refine RG.vl rfl rfl rfl (Ev.pickF rfl rfl rfl) ?_
   refine RG.vl rfl rfl rfl (Ev.move rfl rfl) ?_
   refine RG.pass rfl rfl rfl ?_
   refine RG.pass rfl rfl rfl ?_
   refine RG.pass rfl rfl rfl ?_
   refine RG.pass rfl rfl rfl ?_
   refine RG.vl rfl rfl rfl (Ev.pickF rfl rfl rfl) ?_
   refine RG.vl rfl rfl rfl (Ev.move rfl rfl) ?_
   refine RG.pass rfl rfl rfl ?_
   refine RG.pass rfl rfl rfl ?_
   refine RG.pass rfl rfl rfl ?_
   refine RG.pass rfl rfl rfl ?_
   refine RG.vl rfl rfl rfl (Ev.pickF rfl rfl rfl) ?_
   refine RG.vl rfl rfl rfl (Ev.assign rfl rfl) ?_
   refine RG.done ?_
   refine QW.sub (S' := [(2, _)]) ⟨rfl, trivial⟩ ?_
   refine QW.then_ (CW.ret ?_)
   refine QW.ret1 rfl rfl ?_
   have hB := (Ex.tr hB0 hE2)
   first | exact ⟨congrArg Value.bool (vldD hyes (by omega) (by omega) (by omega)), hB⟩ | exact ⟨congrArg Value.bool (vldF fun _ => by omega), hB⟩

set_option maxRecDepth 100000 in
set_option maxHeartbeats 4000000 in
theorem rencode_ret (u : Value) (l : List Nat) (w : World) (hl : RdL w 1 encN u l) (hlen : l.length ≤ 59) (hel : El l) :
  Ret Tryz.prog 22 [u] w (fun v w' => ∃ c, Own w' w.heap.size 5 1 encN v c ∧ IsEnc l c ∧ Ex w w') := by
 have hB0 : Ex w w := Ex.rfl_ _
 refine Ret.of Tryz.func22 rfl Tryz.ntmps22 rfl ?_
 refine CW.seq (CW.region ?_)
 refine RG.vl rfl rfl rfl (Ev.assign rfl rfl) ?_
 refine RG.done (QW.then_ (CW.seq (CW.region ?_)))
 refine RG.litO (os := [_]) (enc := encN) ([1]) rfl rfl rfl rfl rfl rfl rfl Tryz.underlying58 inf_5 rfl rfl rfl rfl rfl encN_len rfl rfl (fun v1 wk2 hxwk2 hown3 hnew4 => ?_)
 have hE5 := hxwk2
 refine RG.vl rfl rfl rfl (Ev.assign rfl rfl) ?_
 refine RG.done (QW.then_ (CW.seq (CW.seq (CW.region ?_))))
 refine RG.vl rfl rfl rfl (Ev.assign rfl rfl) ?_
 refine RG.done (QW.then_ (CW.block ?_))
 refine CW.loop2 [(0, _), (2, _)] ⟨rfl, rfl, trivial⟩ (fun (j : Nat) (ug : Value) => [(4, .int .i64 ((j : Int) + 1)), (3, ug)]) (fun j ug w' => (j ≤ 4 ∧ RdL w' 1 encN ug (genL j)) ∧ Ex w w') (fun j ug => 4 - j) (0) (v1) ⟨rfl, rfl, trivial⟩ ⟨⟨Nat.zero_le _, hown3.rdl encN_len⟩, (Ex.tr hB0 hE5)⟩ ?_
 rintro j ug wl6 ⟨⟨hj, hG⟩, hxwl6⟩
 refine CW.sub (S' := [(4, _), (3, _), (0, _), (2, _)]) ⟨rfl, rfl, rfl, rfl, trivial⟩ ?_
 obtain ⟨hGe, hGl⟩ := genL_ok hj
 refine CW.seq (CW.seq (CW.region ?_))
 refine RG.vl rfl rfl rfl (Ev.move rfl rfl) ?_
 refine RG.vl rfl rfl rfl (Ev.leq rfl rfl rfl) ?_
 refine RG.done (QW.then_ ?_)
 refine CW.condP rfl (fun hc7 => ?_) (fun hc7 => ?_)
 ·refine CW.skip (QW.then_ (CW.seq (CW.block ?_)))
  have hpl := pw_lt (j + 1) (by omega)
  have h2l : [pw (j + 1), 1].length = 2 := rfl
  have hP2 : El [pw (j + 1), 1] := el2 hpl.2 (by omega)
  refine CW.region ?_
  refine RG.vl rfl rfl rfl (Ev.move rfl rfl) ?_
  refine RG.vl rfl rfl rfl (Ev.move rfl rfl) ?_
  refine RG.call rfl rfl rfl rfl rfl rfl rfl en_55 ((by have k := rpow_ret 2 (j + 1) wl6 (by omega) (by omega); rw [gp_two _ (by omega)] at k; exact k)) ?_
  rintro _ w8 ⟨rfl, hx8⟩
  replace hxwl6 := Ex.tr hxwl6 hx8
  have hE9 := hx8
  refine RG.litO (os := [.tmp 19, _]) (enc := encN) ([pw (j + 1), 1]) rfl rfl rfl rfl rfl rfl rfl Tryz.underlying58 inf_5 rfl rfl rfl rfl rfl encN_len rfl rfl (fun v10 wk11 hxwk11 hown12 hnew13 => ?_)
  replace hxwl6 := Ex.tr hxwl6 hxwk11
  replace hE9 := Ex.tr hE9 hxwk11
  have hE14 := hxwk11
  refine RG.call rfl rfl rfl rfl rfl rfl rfl en_54 (rprod_ret _ _ _ _ _ ((hG.ext hE9)) ((hown12.rdl encN_len)) (by omega) (by omega) (by exact hGe) (by exact hP2)) ?_
  have hpre15 := (Ex.tr hB0 hxwl6)
  rintro vrp15 w15 ⟨hrp15, hx15⟩
  replace hxwl6 := Ex.tr hxwl6 hx15
  replace hE9 := Ex.tr hE9 hx15
  replace hE14 := Ex.tr hE14 hx15
  have hE16 := hx15
  refine RG.vl rfl rfl rfl (Ev.assign rfl rfl) ?_
  refine RG.done (QW.blockN (QW.then_ (CW.region ?_)))
  refine RG.vl rfl rfl rfl (Ev.move rfl rfl) ?_
  refine RG.vl rfl rfl rfl (Ev.addI rfl rfl rfl (by omega)) ?_
  refine RG.vl rfl rfl rfl (Ev.assign rfl rfl) ?_
  refine RG.done ?_
  refine QW.round2 (j + 1) (vrp15) ⟨rfl, rfl, trivial⟩ ⟨rfl, rfl, trivial⟩ ⟨⟨by omega, hrp15.rdl encN_len⟩, (Ex.tr hB0 hxwl6)⟩ (by omega)
 ·refine CW.exit (QW.thenExit (QW.thenExit (QW.blockHit (QW.then_ (CW.seq (CW.region ?_))))))
  replace hl := (hl.ext hxwl6)
  have hR21 := (Ex.tr hB0 hxwl6)
  refine RG.makeO (m := 4) (enc := encN) 0 rfl rfl rfl rfl rfl rfl (rfl) Tryz.underlying58 inf_5 encN_len rfl rfl (by omega) (by simp only [maxLen]; omega) (fun v17 wk18 hxwk18 hown19 hnew20 => ?_)
  have hE22 := hxwk18
  refine RG.vl rfl rfl rfl (Ev.assign rfl rfl) ?_
  refine RG.done (QW.then_ (CW.seq (CW.seq (CW.region ?_))))
  refine RG.vl rfl rfl rfl (Ev.move rfl rfl) ?_
  refine RG.vl rfl rfl rfl (Ev.lenL rfl rfl rfl Tryz.underlying58 ((hl.ext hE22))) ?_
  refine RG.vl rfl rfl rfl (Ev.subI rfl rfl rfl (by omega)) ?_
  refine RG.vl rfl rfl rfl (Ev.assign rfl rfl) ?_
  refine RG.done (QW.then_ (CW.block ?_))
  obtain rfl : j = 4 := by omega
  refine CW.loop2 [(0, _), (2, _), (3, _)] ⟨rfl, rfl, rfl, trivial⟩ (fun (k1 : Nat) (up : Value) => [(6, .int .i64 ((k1 : Int) - 1)), (5, up)]) (fun k1 up w' => (k1 ≤ l.length ∧ Own w' wl6.heap.size 5 1 encN up (rvD l k1)) ∧ Ex wl6 w') (fun k1 up => k1) (l.length) (v17) ⟨rfl, rfl, trivial⟩ ⟨⟨Nat.le_refl _, by rw [← rvD_start]; exact hown19⟩, hE22⟩ ?_
  rintro k1 up wl23 ⟨⟨hk1, hop⟩, hxwl23⟩
  refine CW.sub (S' := [(6, _), (5, _), (0, _), (2, _), (3, _)]) ⟨rfl, rfl, rfl, rfl, rfl, trivial⟩ ?_
  refine CW.seq (CW.seq (CW.region ?_))
  refine RG.vl rfl rfl rfl (Ev.move rfl rfl) ?_
  refine RG.vl rfl rfl rfl (Ev.geq rfl rfl rfl) ?_
  refine RG.done (QW.then_ ?_)
  refine CW.condP rfl (fun hc24 => ?_) (fun hc24 => ?_)
  ·refine CW.skip (QW.then_ (CW.seq (CW.block ?_)))
   obtain ⟨k, rfl⟩ : ∃ k, k1 = k + 1 := ⟨k1 - 1, by omega⟩
   have hc : l[k]? = some (cf l k) := getElem?_cf (by omega)
   have hrl := rvD_len l (k + 1)
   refine CW.region ?_
   refine RG.vl rfl rfl rfl (Ev.move rfl rfl) ?_
   refine RG.vl rfl rfl rfl (Ev.move rfl rfl) ?_
   refine RG.vl rfl rfl rfl ((Ev.move rfl rfl).conv (congrArg (Value.int .i64) (show ((k + 1 : Nat) : Int) - 1 = (k : Int) by omega))) ?_
   refine RG.idxL rfl rfl rfl rfl rfl rfl Tryz.underlying58 sz_5 ((hl.ext hxwl23)) (hc) (fun p25 hp25b hp25 => ?_)
   refine RG.vl rfl rfl rfl (Ev.ld0 rfl rfl Tryz.underlying5 rfl (hp25) (rfl)) ?_
   refine RG.litO (os := [.tmp 34]) (enc := encN) ([cf l k]) rfl rfl rfl rfl rfl rfl rfl Tryz.underlying58 inf_5 rfl rfl rfl rfl rfl encN_len rfl rfl (fun v26 wk27 hxwk27 hown28 hnew29 => ?_)
   replace hxwl23 := Ex.tr hxwl23 hxwk27
   have hE30 := hxwk27
   refine RG.appO rfl rfl rfl rfl rfl rfl rfl Tryz.underlying58 inf_5 rfl rfl encN_len (fun _ => rfl) (Own.ext hop hE30) ((hown28.rdl encN_len)) (by show _ + 1 ≤ maxLen; simp only [maxLen]; omega) (by show (_ + 1) * _ ≤ _; omega) (hxwl23.size) (fun v31 wa32 hown33 hgr34 hat35 => ?_)
   replace hxwl23 := own_block (Own.ext hop hE30) hxwl23 hgr34 (Nat.le_refl _) hxwl23.size
   refine RG.vl rfl rfl rfl (Ev.assign rfl rfl) ?_
   refine RG.done (QW.blockN (QW.then_ (CW.region ?_)))
   refine RG.vl rfl rfl rfl (Ev.move rfl rfl) ?_
   refine RG.vl rfl rfl rfl (Ev.subI rfl rfl rfl (by omega)) ?_
   refine RG.vl rfl rfl rfl (Ev.assign rfl rfl) ?_
   refine RG.done ?_
   refine QW.round2 (k) (v31) ⟨congrArg (fun x => some (Value.int .i64 x)) (show ((k + 1 : Nat) : Int) - 1 - 1 = (k : Int) - 1 by omega), rfl, trivial⟩ ⟨rfl, rfl, rfl, trivial⟩ ⟨⟨by omega, by rw [← rvD_more (by omega)]; exact hown33⟩, hxwl23⟩ (by omega)
  ·refine CW.exit (QW.thenExit (QW.thenExit (QW.blockHit (QW.then_ (CW.seq ?_)))))
   rw [genL_four] at hG
   have hg5 : gen5.length = 5 := rfl
   obtain rfl : k1 = 0 := by omega
   have hrl := rvD_len l 0
   have hrE := rvD_el hel 0
   refine CW.region ?_
   refine RG.vl rfl rfl rfl (Ev.move rfl rfl) ?_
   refine RG.vl rfl rfl rfl (Ev.move rfl rfl) ?_
   refine RG.call rfl rfl rfl rfl rfl rfl rfl en_56 (rdiv_ret _ _ _ _ _ ((hop.rdl encN_len)) ((hG.ext hxwl23)) (by omega) (by omega) (by exact hrE) (by exact gen5_el) (by rw [gen5_dg]; omega)) ?_
   rintro _ w36 ⟨r136, r236, d36, e36, rfl, hod36, hoe36, hdv36, hdt36, het36, hde36, hee36, hx36⟩
   replace hxwl23 := Ex.tr hxwl23 hx36
   have hE37 := hx36
   refine RG.vl rfl rfl rfl (Ev.move rfl rfl) ?_
   refine RG.vl rfl rfl rfl (Ev.extract rfl rfl rfl) ?_
   refine RG.vl rfl rfl rfl (Ev.extract rfl rfl rfl) ?_
   refine RG.vl rfl rfl rfl (Ev.assign rfl rfl) ?_
   refine RG.vl rfl rfl rfl (Ev.assign rfl rfl) ?_
   refine RG.done (QW.then_ (CW.seq ?_))
   rw [rvD_end] at hdv36
   obtain ⟨hr4, henc⟩ := enc_end hel hde36 hee36 hdv36 het36
   have hin : Ex w w36 := (Ex.tr hR21 hxwl23)
   refine CW.region ?_
   replace hl := (hl.ext hxwl23)
   replace hG := (hG.ext hxwl23)
   replace hop := (Own.ext hop hE37)
   have hR42 := (Ex.tr hR21 hxwl23)
   have hR43 := hxwl23
   have hR44 := hE37
   refine RG.build0O (enc := encN) rfl rfl rfl rfl rfl Tryz.underlying58 sz_5 (fun v38 wk39 hxwk39 hown40 hnew41 => ?_)
   have hE45 := hxwk39
   refine RG.vl rfl rfl rfl (Ev.move rfl rfl) ?_
   refine RG.appO rfl rfl rfl rfl rfl rfl rfl Tryz.underlying58 inf_5 rfl rfl encN_len (fun _ => rfl) hown40 ((hl.ext hE45)) (by show 0 + _ ≤ maxLen; simp only [maxLen]; omega) (by show (0 + _) * _ ≤ _; omega) (hE45.size) (fun v46 wa47 hown48 hgr49 hat50 => ?_)
   replace hE45 := own_block hown40 hE45 hgr49 (Nat.le_refl _) hE45.size
   refine RG.vl rfl rfl rfl (Ev.assign rfl rfl) ?_
   refine RG.done ?_
   refine QW.sub (S' := [(2, _), (8, _), (9, _)]) ⟨rfl, rfl, rfl, trivial⟩ ?_
   refine QW.then_ (CW.seq (CW.seq (CW.region ?_)))
   refine RG.vl rfl rfl rfl (Ev.assign rfl rfl) ?_
   refine RG.done (QW.then_ (CW.block ?_))
   refine CW.loop2 [(2, _), (8, _)] ⟨rfl, rfl, trivial⟩ (fun (k2 : Nat) (u9 : Value) => [(10, .int .i64 ((k2 : Int) - 1)), (9, u9)]) (fun k2 u9 w' => (k2 ≤ 4 ∧ Own w' w36.heap.size 5 1 encN u9 (ckD l e36 k2)) ∧ Ex w36 w') (fun k2 u9 => k2) (4) (v46) ⟨rfl, rfl, trivial⟩ ⟨⟨Nat.le_refl _, by rw [ckD_start]; exact hown48⟩, hE45⟩ ?_
   rintro k2 u9 wl51 ⟨⟨hk2, ho9⟩, hxwl51⟩
   refine CW.sub (S' := [(10, _), (9, _), (2, _), (8, _)]) ⟨rfl, rfl, rfl, rfl, trivial⟩ ?_
   refine CW.seq (CW.seq (CW.region ?_))
   refine RG.vl rfl rfl rfl (Ev.move rfl rfl) ?_
   refine RG.vl rfl rfl rfl (Ev.geq rfl rfl rfl) ?_
   refine RG.done (QW.then_ ?_)
   refine CW.condP rfl (fun hc52 => ?_) (fun hc52 => ?_)
   ·refine CW.skip (QW.then_ (CW.seq (CW.block (CW.seq ?_))))
    obtain ⟨k, rfl⟩ : ∃ k, k2 = k + 1 := ⟨k2 - 1, by omega⟩
    have hck := ckD_len l e36 (k + 1)
    refine CW.region ?_
    refine RG.vl rfl rfl rfl (Ev.assign rfl rfl) ?_
    refine RG.done (QW.then_ (CW.seq (CW.seq (CW.region ?_))))
    refine RG.vl rfl rfl rfl (Ev.move rfl rfl) ?_
    refine RG.vl rfl rfl rfl (Ev.move rfl rfl) ?_
    refine RG.vl rfl rfl rfl (Ev.lenL rfl rfl rfl Tryz.underlying58 ((hoe36.ext hxwl51))) ?_
    refine RG.vl rfl rfl rfl (Ev.lss rfl rfl rfl) ?_
    refine RG.done (QW.then_ ?_)
    refine CW.condP rfl (fun hc53 => ?_) (fun hc53 => ?_)
    ·refine CW.region ?_
     refine RG.vl rfl rfl rfl (Ev.move rfl rfl) ?_
     refine RG.vl rfl rfl rfl ((Ev.move rfl rfl).conv (congrArg (Value.int .i64) (show ((k + 1 : Nat) : Int) - 1 = (k : Int) by omega))) ?_
     refine RG.idxL rfl rfl rfl rfl rfl rfl Tryz.underlying58 sz_5 ((hoe36.ext hxwl51)) (getElem?_cf (show k < _ by omega)) (fun p54 hp54b hp54 => ?_)
     refine RG.vl rfl rfl rfl (Ev.ld0 rfl rfl Tryz.underlying5 rfl (hp54) (rfl)) ?_
     refine RG.vl rfl rfl rfl (Ev.assign rfl rfl) ?_
     refine RG.done (QW.then_ (CW.region ?_))
     refine RG.vl rfl rfl rfl (Ev.move rfl rfl) ?_
     refine RG.vl rfl rfl rfl (Ev.move rfl rfl) ?_
     refine RG.litO (os := [.tmp 59]) (enc := encN) ([cf e36 k]) rfl rfl rfl rfl rfl rfl rfl Tryz.underlying58 inf_5 rfl rfl rfl rfl rfl encN_len rfl rfl (fun v55 wk56 hxwk56 hown57 hnew58 => ?_)
     replace hxwl51 := Ex.tr hxwl51 hxwk56
     have hE59 := hxwk56
     refine RG.appO rfl rfl rfl rfl rfl rfl rfl Tryz.underlying58 inf_5 rfl rfl encN_len (fun _ => rfl) (Own.ext ho9 hE59) ((hown57.rdl encN_len)) (by show _ + 1 ≤ maxLen; simp only [maxLen]; omega) (by show (_ + 1) * _ ≤ _; omega) (hxwl51.size) (fun v60 wa61 hown62 hgr63 hat64 => ?_)
     replace hxwl51 := own_block (Own.ext ho9 hE59) hxwl51 hgr63 (Nat.le_refl _) hxwl51.size
     refine RG.vl rfl rfl rfl (Ev.assign rfl rfl) ?_
     refine RG.done ?_
     refine QW.sub (S' := [(2, _), (8, _), (9, _), (10, _)]) ⟨rfl, rfl, rfl, rfl, trivial⟩ ?_
     refine QW.blockN (QW.then_ (CW.region ?_))
     refine RG.vl rfl rfl rfl (Ev.move rfl rfl) ?_
     refine RG.vl rfl rfl rfl (Ev.subI rfl rfl rfl (by omega)) ?_
     refine RG.vl rfl rfl rfl (Ev.assign rfl rfl) ?_
     refine RG.done ?_
     refine QW.round2 (k) (v60) ⟨congrArg (fun x => some (Value.int .i64 x)) (show ((k + 1 : Nat) : Int) - 1 - 1 = (k : Int) - 1 by omega), rfl, trivial⟩ ⟨rfl, rfl, trivial⟩ ⟨⟨by omega, by rw [← ckD_more (by omega)]; exact hown62⟩, hxwl51⟩ (by omega)
    ·refine CW.skip (QW.then_ ?_)
     have hz : cf e36 k = 0 := cf_none (by omega)
     refine CW.region ?_
     refine RG.vl rfl rfl rfl (Ev.move rfl rfl) ?_
     refine RG.vl rfl rfl rfl (Ev.move rfl rfl) ?_
     refine RG.litO (os := [.tmp 59]) (enc := encN) ([0]) rfl rfl rfl rfl rfl rfl rfl Tryz.underlying58 inf_5 rfl rfl rfl rfl rfl encN_len rfl rfl (fun v65 wk66 hxwk66 hown67 hnew68 => ?_)
     replace hxwl51 := Ex.tr hxwl51 hxwk66
     have hE69 := hxwk66
     refine RG.appO rfl rfl rfl rfl rfl rfl rfl Tryz.underlying58 inf_5 rfl rfl encN_len (fun _ => rfl) (Own.ext ho9 hE69) ((hown67.rdl encN_len)) (by show _ + 1 ≤ maxLen; simp only [maxLen]; omega) (by show (_ + 1) * _ ≤ _; omega) (hxwl51.size) (fun v70 wa71 hown72 hgr73 hat74 => ?_)
     replace hxwl51 := own_block (Own.ext ho9 hE69) hxwl51 hgr73 (Nat.le_refl _) hxwl51.size
     refine RG.vl rfl rfl rfl (Ev.assign rfl rfl) ?_
     refine RG.done (QW.blockN (QW.then_ (CW.region ?_)))
     refine RG.vl rfl rfl rfl (Ev.move rfl rfl) ?_
     refine RG.vl rfl rfl rfl (Ev.subI rfl rfl rfl (by omega)) ?_
     refine RG.vl rfl rfl rfl (Ev.assign rfl rfl) ?_
     refine RG.done ?_
     refine QW.sub (S' := [(2, _), (8, _), (9, _), (10, _)]) ⟨rfl, rfl, rfl, rfl, trivial⟩ ?_
     refine QW.round2 (k) (v70) ⟨congrArg (fun x => some (Value.int .i64 x)) (show ((k + 1 : Nat) : Int) - 1 - 1 = (k : Int) - 1 by omega), rfl, trivial⟩ ⟨rfl, rfl, trivial⟩ ⟨⟨by omega, by rw [← ckD_more (by omega), hz]; exact hown72⟩, hxwl51⟩ (by omega)
   ·refine CW.exit (QW.thenExit (QW.thenExit (QW.blockHit (QW.then_ (CW.seq (CW.region ?_))))))
    refine RG.vl rfl rfl rfl (Ev.move rfl rfl) ?_
    refine RG.vl rfl rfl rfl (Ev.assign rfl rfl) ?_
    refine RG.done (QW.then_ (CW.ret ?_))
    refine QW.ret1 rfl rfl ?_
    have hB := (Ex.tr hR42 hxwl51)
    obtain rfl : k2 = 0 := by omega
    exact ⟨_, ho9.low (by have := hin.size; omega), by rw [ckD_end]; exact henc, hB⟩

end Go.Proofs.YtgjnchjkjdnidaaGreat

/- Walks (RN). Written by program. -/
namespace Go.Proofs.YtgjnchjkjdnidaaGreat
open Go.RowKit
set_option maxRecDepth 100000 in
set_option maxHeartbeats 8000000 in
theorem filled_ret (u v0 : Value) (l P : List Nat) (w : World) (hl : RdL w 1 encN u l) (hm : RdL w 1 encZ v0 P) (hW : isW l = true) (hd : P.Nodup) (h4 : P.length ≤ 4) (hp : ∀ p ∈ P, p < l.length) :
  Ret Tryz.prog 78 [u, v0] w (fun v w' => ∃ r b o, v = .tuple #[r, .bool b] ∧ Own w' w.heap.size 5 1 encN r o ∧ (b = true → YesR l P o) ∧ (b = false → NoR l P) ∧ Ex w w') := by
 obtain ⟨hw1, hw2, hle⟩ := isW_iff.1 hW
 have hzl := zerL_len l P P.length
 have hze := zerL_el hle P P.length
 obtain ⟨vA, vC, rfl⟩ := hm.shape
 have hB0 : Ex w w := Ex.rfl_ _
 refine Ret.of Tryz.func78 rfl Tryz.ntmps78 rfl ?_
 refine CW.seq (CW.region ?_)
 refine RG.vl rfl rfl rfl (Ev.assign rfl rfl) ?_
 refine RG.vl rfl rfl rfl (Ev.assign rfl rfl) ?_
 refine RG.done (QW.then_ (CW.seq (CW.region ?_)))
 refine RG.vl rfl rfl rfl (Ev.move rfl rfl) ?_
 refine RG.vl rfl rfl rfl (Ev.lenL rfl rfl rfl Tryz.underlying29 (hm)) ?_
 refine RG.vl rfl rfl rfl (Ev.assign rfl rfl) ?_
 refine RG.done (QW.then_ (CW.seq (CW.region ?_)))
 refine RG.build0O (enc := encN) rfl rfl rfl rfl rfl Tryz.underlying58 sz_5 (fun v1 wk2 hxwk2 hown3 hnew4 => ?_)
 replace hown3 := Own.low (B' := w.heap.size) hown3 (by have := hB0.size; omega)
 have hE5 := hxwk2
 refine RG.vl rfl rfl rfl (Ev.move rfl rfl) ?_
 refine RG.appO rfl rfl rfl rfl rfl rfl rfl Tryz.underlying58 inf_5 rfl rfl encN_len (fun _ => rfl) hown3 ((hl.ext hE5)) (by show 0 + _ ≤ maxLen; simp only [maxLen]; omega) (by show (0 + _) * _ ≤ _; omega) (hE5.size) (fun v7 wa6 hown7 hgr8 hat9 => ?_)
 replace hE5 := own_block hown3 hE5 hgr8 (Nat.le_refl _) hE5.size
 refine RG.vl rfl rfl rfl (Ev.assign rfl rfl) ?_
 refine RG.done (QW.then_ (CW.seq (CW.seq (CW.region ?_))))
 refine RG.vl rfl rfl rfl (Ev.assign rfl rfl) ?_
 refine RG.done (QW.then_ (CW.block ?_))
 refine CW.loop1 [(0, _), (1, _), (4, _), (5, _), (6, _), (7, _)] ⟨rfl, rfl, rfl, rfl, rfl, rfl, trivial⟩ (fun (i : Nat) => [(8, .int .i64 (i : Int))]) (fun i w' => (i ≤ P.length ∧ Own w' w.heap.size 5 1 encN v7 (zerL l P i)) ∧ Ex w w') (fun i => P.length - i) (0) ⟨rfl, trivial⟩ ⟨⟨Nat.zero_le _, hown7⟩, (Ex.tr hB0 hE5)⟩ ?_
 rintro i wl10 ⟨⟨hi, ho7⟩, hxwl10⟩
 refine CW.sub (S' := [(8, _), (0, _), (1, _), (4, _), (5, _), (6, _), (7, _)]) ⟨rfl, rfl, rfl, rfl, rfl, rfl, rfl, trivial⟩ ?_
 refine CW.seq (CW.seq (CW.region ?_))
 refine RG.vl rfl rfl rfl (Ev.move rfl rfl) ?_
 refine RG.vl rfl rfl rfl (Ev.move rfl rfl) ?_
 refine RG.vl rfl rfl rfl (Ev.lss rfl rfl rfl) ?_
 refine RG.done (QW.then_ ?_)
 refine CW.condP rfl (fun hc11 => ?_) (fun hc11 => ?_)
 ·refine CW.skip (QW.then_ (CW.seq (CW.block ?_)))
  have hpi := hp _ (List.mem_of_getElem? (getElem?_cf (p := P) (k := i) (by omega)))
  have hzi := zerL_len l P i
  refine CW.region ?_
  refine RG.vl rfl rfl rfl (Ev.move rfl rfl) ?_
  refine RG.vl rfl rfl rfl (Ev.move rfl rfl) ?_
  refine RG.vl rfl rfl rfl (Ev.move rfl rfl) ?_
  refine RG.idxL rfl rfl rfl rfl rfl rfl Tryz.underlying29 sz_3 ((hm.ext hxwl10)) (getElem?_cf (by omega)) (fun p12 hp12b hp12 => ?_)
  refine RG.vl rfl rfl rfl (Ev.ld0 rfl rfl Tryz.underlying3 rfl (hp12) (rfl)) ?_
  refine RG.idxO rfl rfl rfl rfl rfl rfl Tryz.underlying58 sz_5 encN_len (ho7) (getElem?_cf (show cf P i < _ by omega)) (fun g14 hg14 hBg14 hp13b hp13 => ?_)
  refine RG.stOw0 (g := g14) (0) rfl rfl rfl rfl rfl sz_5 rfl (fun _ => rfl) ho7 hg14 (getElem?_cf (show cf P i < _ by omega)) rfl (rfl) (fun ws15 hwws15 hown16 => ?_)
  replace hxwl10 := Wr.below hxwl10 hwws15 hBg14
  refine RG.done (QW.blockN (QW.then_ (CW.region ?_)))
  refine RG.vl rfl rfl rfl (Ev.move rfl rfl) ?_
  refine RG.vl rfl rfl rfl (Ev.addI rfl rfl rfl (by omega)) ?_
  refine RG.vl rfl rfl rfl (Ev.assign rfl rfl) ?_
  refine RG.done ?_
  refine QW.round1 (i + 1) ⟨rfl, trivial⟩ ⟨rfl, rfl, rfl, rfl, rfl, rfl, trivial⟩ ⟨⟨by omega, hown16⟩, (Ex.tr hB0 hxwl10)⟩ (by omega)
 ·refine CW.exit (QW.thenExit (QW.thenExit (QW.blockHit (QW.then_ (CW.seq ?_)))))
  obtain rfl : i = P.length := by omega
  refine CW.region ?_
  refine RG.vl rfl rfl rfl (Ev.move rfl rfl) ?_
  refine RG.call rfl rfl rfl rfl rfl rfl rfl en_115 (rsynd_ret _ (zerL l P P.length) _ ((ho7.rdl encN_len)) (by omega) hze) ?_
  have hpre17 := (Ex.tr hB0 hxwl10)
  rintro v9 w17 ⟨ho9, hx17⟩
  have hsep18 : Sep v9 _ := Sep.of_new ho7 (fun k h => Own.ge ho9 h)
  replace ho9 := Own.low (B' := w.heap.size) ho9 (by have := (Ex.tr hB0 hxwl10).size; omega)
  replace hxwl10 := Ex.tr hxwl10 hx17
  have hE19 := hx17
  refine RG.vl rfl rfl rfl (Ev.assign rfl rfl) ?_
  refine RG.done (QW.then_ (CW.seq (CW.region ?_)))
  refine RG.alloc_ rfl rfl rfl rfl inf_178 (fun gA w20 egA hx20 hb20 => ?_)
  have hsb21 := fun e => sep_new (g := gA) (Own.ext ho7 hE19) egA e
  have hsb22 := fun e => sep_new (g := gA) ho9 egA e
  have hle23 : w.heap.size ≤ gA := by have := hxwl10.size; omega
  have hle24 : wl10.heap.size ≤ gA := by have := hE19.size; omega
  have hle25 : w17.heap.size ≤ gA := by have := (Ex.rfl_ w17).size; omega
  replace hxwl10 := Ex.tr hxwl10 hx20
  replace hE19 := Ex.tr hE19 hx20
  have hE26 := hx20
  refine RG.done (QW.then_ (CW.seq (CW.region ?_)))
  refine RG.alloc_ rfl rfl rfl rfl inf_128 (fun gB w27 egB hx27 hb27 => ?_)
  have hsb28 := fun e => sep_new (g := gB) (Own.ext ho7 hE19) egB e
  have hsb29 := fun e => sep_new (g := gB) (Own.ext ho9 hE26) egB e
  have hle30 : w.heap.size ≤ gB := by have := hxwl10.size; omega
  have hle31 : wl10.heap.size ≤ gB := by have := hE19.size; omega
  have hle32 : w17.heap.size ≤ gB := by have := hE26.size; omega
  have hle33 : w20.heap.size ≤ gB := by have := (Ex.rfl_ w20).size; omega
  have hlt34 : gA < gB := by have := Blk.lt hb20; omega
  replace hxwl10 := Ex.tr hxwl10 hx27
  replace hE19 := Ex.tr hE19 hx27
  replace hE26 := Ex.tr hE26 hx27
  have hE35 := hx27
  refine RG.done (QW.then_ (CW.seq (CW.seq (CW.region ?_))))
  refine RG.vl rfl rfl rfl (Ev.assign rfl rfl) ?_
  refine RG.done (QW.then_ (CW.block ?_))
  refine CW.loop1 [(0, _), (1, _), (4, _), (5, _), (6, _), (7, _), (9, _), (10, _), (11, _)] ⟨rfl, rfl, rfl, rfl, rfl, rfl, rfl, rfl, rfl, trivial⟩ (fun (j : Nat) => [(12, .int .i64 (j : Int))]) (fun j w' => (j ≤ P.length ∧ Blk w' gA 178 (mc4 (rM l.length P (syL (zerL l P P.length)) j 0)) ∧ Blk w' gB 128 (bc4 (rM l.length P (syL (zerL l P P.length)) j 0)) ∧ Own w' w.heap.size 5 1 encN v7 (zerL l P P.length) ∧ Own w' w.heap.size 5 1 encN v9 (syL (zerL l P P.length))) ∧ Ex w w') (fun j => P.length - j) (0) ⟨rfl, trivial⟩ ⟨⟨Nat.zero_le _, (hb20.ext hE35), hb27, (Own.ext ho7 hE19), (Own.ext ho9 hE26)⟩, (Ex.tr hB0 hxwl10)⟩ ?_
  rintro j wl36 ⟨⟨hj, hA, hBb, ho7, ho9⟩, hxwl36⟩
  refine CW.sub (S' := [(12, _), (0, _), (1, _), (4, _), (5, _), (6, _), (7, _), (9, _), (10, _), (11, _)]) ⟨rfl, rfl, rfl, rfl, rfl, rfl, rfl, rfl, rfl, rfl, trivial⟩ ?_
  refine CW.seq (CW.seq (CW.region ?_))
  refine RG.vl rfl rfl rfl (Ev.move rfl rfl) ?_
  refine RG.vl rfl rfl rfl (Ev.move rfl rfl) ?_
  refine RG.vl rfl rfl rfl (Ev.lss rfl rfl rfl) ?_
  refine RG.done (QW.then_ ?_)
  refine CW.condP rfl (fun hc37 => ?_) (fun hc37 => ?_)
  ·refine CW.skip (QW.then_ (CW.seq (CW.block (CW.seq ?_))))
   have hpj := hp _ (List.mem_of_getElem? (getElem?_cf (p := P) (k := j) (by omega)))
   refine CW.region ?_
   refine RG.vl rfl rfl rfl (Ev.move rfl rfl) ?_
   refine RG.vl rfl rfl rfl (Ev.lenL rfl rfl rfl Tryz.underlying58 ((hl.ext hxwl36))) ?_
   refine RG.vl rfl rfl rfl (Ev.subI rfl rfl rfl (by omega)) ?_
   refine RG.vl rfl rfl rfl (Ev.move rfl rfl) ?_
   refine RG.vl rfl rfl rfl (Ev.move rfl rfl) ?_
   refine RG.idxL rfl rfl rfl rfl rfl rfl Tryz.underlying29 sz_3 ((hm.ext hxwl36)) (getElem?_cf (by omega)) (fun p38 hp38b hp38 => ?_)
   refine RG.vl rfl rfl rfl (Ev.ld0 rfl rfl Tryz.underlying3 rfl (hp38) (rfl)) ?_
   refine RG.vl rfl rfl rfl ((Ev.subI rfl rfl rfl (by omega)).conv (congrArg (Value.int .i64) (show _ = ((l.length - 1 - cf P j : Nat) : Int) by omega))) ?_
   refine RG.call rfl rfl rfl rfl rfl rfl rfl en_55 ((by have k := rpow_ret 2 (l.length - 1 - cf P j) wl36 (by omega) (by omega); rw [gp_two _ (by omega)] at k; exact k)) ?_
   rintro _ w39 ⟨rfl, hx39⟩
   replace hxwl36 := Ex.tr hxwl36 hx39
   have hE40 := hx39
   refine RG.vl rfl rfl rfl (Ev.assign rfl rfl) ?_
   refine RG.done (QW.then_ (CW.seq (CW.region ?_)))
   refine RG.vl rfl rfl rfl (Ev.move rfl rfl) ?_
   refine RG.vl rfl rfl rfl (Ev.assign rfl rfl) ?_
   refine RG.done ?_
   refine QW.sub (S' := [(0, _), (1, _), (4, _), (5, _), (6, _), (7, _), (9, _), (10, _), (11, _), (12, _), (13, _), (14, _)]) ⟨rfl, rfl, rfl, rfl, rfl, rfl, rfl, rfl, rfl, rfl, rfl, rfl, trivial⟩ ?_
   refine QW.then_ (CW.seq (CW.seq (CW.region ?_)))
   refine RG.vl rfl rfl rfl (Ev.assign rfl rfl) ?_
   refine RG.done (QW.then_ (CW.block ?_))
   refine CW.loop1 [(0, _), (1, _), (4, _), (5, _), (6, _), (7, _), (9, _), (10, _), (11, _), (12, _), (13, _)] ⟨rfl, rfl, rfl, rfl, rfl, rfl, rfl, rfl, rfl, rfl, rfl, trivial⟩ (fun (i : Nat) => [(15, .int .i64 (i : Int)), (14, .int .u8 (pw ((i + 1) * (l.length - 1 - cf P j) % 63) : Nat))]) (fun i w' => (i ≤ P.length ∧ Blk w' gA 178 (mc4 (rM l.length P (syL (zerL l P P.length)) j i)) ∧ Blk w' gB 128 (bc4 (rM l.length P (syL (zerL l P P.length)) j 0)) ∧ Own w' w.heap.size 5 1 encN v7 (zerL l P P.length) ∧ Own w' w.heap.size 5 1 encN v9 (syL (zerL l P P.length))) ∧ Ex w w') (fun i => P.length - i) (0) ⟨rfl, by rw [Nat.zero_add, Nat.one_mul, Nat.mod_eq_of_lt (show l.length - 1 - cf P j < 63 by omega)]; rfl, trivial⟩ ⟨⟨Nat.zero_le _, (hA.ext hE40), (hBb.ext hE40), (Own.ext ho7 hE40), (Own.ext ho9 hE40)⟩, (Ex.tr hB0 hxwl36)⟩ ?_
   rintro i wl41 ⟨⟨hi, hA, hBb, ho7, ho9⟩, hxwl41⟩
   refine CW.sub (S' := [(15, _), (14, _), (0, _), (1, _), (4, _), (5, _), (6, _), (7, _), (9, _), (10, _), (11, _), (12, _), (13, _)]) ⟨rfl, rfl, rfl, rfl, rfl, rfl, rfl, rfl, rfl, rfl, rfl, rfl, rfl, trivial⟩ ?_
   refine CW.seq (CW.seq (CW.region ?_))
   refine RG.vl rfl rfl rfl (Ev.move rfl rfl) ?_
   refine RG.vl rfl rfl rfl (Ev.move rfl rfl) ?_
   refine RG.vl rfl rfl rfl (Ev.lss rfl rfl rfl) ?_
   refine RG.done (QW.then_ ?_)
   refine CW.condP rfl (fun hc42 => ?_) (fun hc42 => ?_)
   ·refine CW.skip (QW.then_ (CW.seq (CW.block (CW.seq ?_))))
    have hpw := pw64 ((i + 1) * (l.length - 1 - cf P j))
    have hpm := pw_lt (l.length - 1 - cf P j) (by omega)
    have hst := pw_step (m := l.length - 1 - cf P j) i (by omega)
    refine CW.region ?_
    refine RG.vl rfl rfl rfl (Ev.move rfl rfl) ?_
    refine RG.vl rfl rfl rfl (Ev.move rfl rfl) ?_
    refine RG.vl rfl rfl rfl (Ev.move rfl rfl) ?_
    refine RG.vl rfl rfl rfl (Ev.idxA rfl rfl rfl Tryz.underlying178 sz_128 (by omega)) ?_
    refine RG.vl rfl rfl rfl (Ev.idxA rfl rfl rfl Tryz.underlying128 sz_5 (by omega)) ?_
    refine RG.st2 (g := gA) rfl rfl rfl rfl rfl sz_5 rfl hA (by rw [mc4_len, Nat.blt_eq]; omega) (fun ws43 hwws43 hbws43 => ?_)
    replace hBb := Blk.far hBb hwws43 (by omega)
    replace ho7 := Own.far ho7 hwws43 hsb21
    replace ho9 := Own.far ho9 hwws43 hsb22
    replace hxwl41 := Wr.below hxwl41 hwws43 hle23
    rw [mc4_set _ _ (by omega), rM_more] at hbws43
    refine RG.done (QW.then_ (CW.region ?_))
    refine RG.vl rfl rfl rfl (Ev.move rfl rfl) ?_
    refine RG.vl rfl rfl rfl (Ev.move rfl rfl) ?_
    refine RG.call rfl rfl rfl rfl rfl rfl rfl en_90 ((by have k := rmul_ret _ _ ws43 hpw hpm.2; rw [hst] at k; exact k)) ?_
    rintro _ w44 ⟨rfl, hx44⟩
    replace hxwl41 := Ex.tr hxwl41 hx44
    have hE45 := hx44
    refine RG.vl rfl rfl rfl (Ev.assign rfl rfl) ?_
    refine RG.done (QW.blockN (QW.then_ (CW.region ?_)))
    refine RG.vl rfl rfl rfl (Ev.move rfl rfl) ?_
    refine RG.vl rfl rfl rfl (Ev.addI rfl rfl rfl (by omega)) ?_
    refine RG.vl rfl rfl rfl (Ev.assign rfl rfl) ?_
    refine RG.done ?_
    refine QW.sub (S' := [(0, _), (1, _), (4, _), (5, _), (6, _), (7, _), (9, _), (10, _), (11, _), (12, _), (13, _), (14, _), (15, _)]) ⟨rfl, rfl, rfl, rfl, rfl, rfl, rfl, rfl, rfl, rfl, rfl, rfl, rfl, trivial⟩ ?_
    refine QW.round1 (i + 1) ⟨rfl, rfl, trivial⟩ ⟨rfl, rfl, rfl, rfl, rfl, rfl, rfl, rfl, rfl, rfl, rfl, trivial⟩ ⟨⟨by omega, (hbws43.ext hE45), (hBb.ext hE45), (Own.ext ho7 hE45), (Own.ext ho9 hE45)⟩, (Ex.tr hB0 hxwl41)⟩ (by omega)
   ·refine CW.exit (QW.thenExit (QW.thenExit (QW.blockHit (QW.then_ ?_))))
    obtain rfl : i = P.length := by omega
    refine CW.region ?_
    refine RG.vl rfl rfl rfl (Ev.move rfl rfl) ?_
    refine RG.vl rfl rfl rfl (Ev.move rfl rfl) ?_
    refine RG.vl rfl rfl rfl (Ev.move rfl rfl) ?_
    refine RG.idxO rfl rfl rfl rfl rfl rfl Tryz.underlying58 sz_5 encN_len (ho9) (getElem?_cf (show j < (syL _).length by show j < 4; omega)) (fun g47 hg47 hBg47 hp46b hp46 => ?_)
    refine RG.vl rfl rfl rfl (Ev.ld0 rfl rfl Tryz.underlying5 rfl (hp46) (rfl)) ?_
    refine RG.vl rfl rfl rfl (Ev.idxA rfl rfl rfl Tryz.underlying128 sz_5 (by omega)) ?_
    refine RG.st (g := gB) (k := _) rfl rfl rfl rfl rfl sz_5 rfl hBb (by rw [bc4_len, Nat.blt_eq]; omega) (fun ws48 hwws48 hbws48 => ?_)
    replace hA := Blk.far hA hwws48 (by omega)
    replace ho7 := Own.far ho7 hwws48 hsb28
    replace ho9 := Own.far ho9 hwws48 hsb29
    replace hxwl41 := Wr.below hxwl41 hwws48 hle30
    rw [bc4_set _ _, rM_bmore] at hbws48
    rw [rM_col] at hA
    refine RG.done (QW.blockN (QW.then_ (CW.region ?_)))
    refine RG.vl rfl rfl rfl (Ev.move rfl rfl) ?_
    refine RG.vl rfl rfl rfl (Ev.addI rfl rfl rfl (by omega)) ?_
    refine RG.vl rfl rfl rfl (Ev.assign rfl rfl) ?_
    refine RG.done ?_
    refine QW.round1 (j + 1) ⟨rfl, trivial⟩ ⟨rfl, rfl, rfl, rfl, rfl, rfl, rfl, rfl, rfl, trivial⟩ ⟨⟨by omega, hA, hbws48, ho7, ho9⟩, (Ex.tr hB0 hxwl41)⟩ (by omega)
  ·refine CW.exit (QW.thenExit (QW.thenExit (QW.blockHit (QW.then_ (CW.seq (CW.seq ?_))))))
   obtain rfl : j = P.length := by omega
   have hg0 : Gs (rM l.length P (syL (zerL l P P.length)) P.length 0) P.length (rM l.length P (syL (zerL l P P.length)) P.length 0) 0 := gs_start (rM_el (fun a ha => by simp only [syL, List.mem_cons, List.not_mem_nil, or_false] at ha; rcases ha with rfl | rfl | rfl | rfl <;> exact sy_lt hze _) _ _)
   obtain ⟨M00, hM00⟩ : ∃ M : Mx, M = (rM l.length P (syL (zerL l P P.length)) P.length 0) := ⟨_, rfl⟩
   refine CW.region ?_
   refine RG.vl rfl rfl rfl (Ev.assign rfl rfl) ?_
   refine RG.done (QW.then_ (CW.block ?_))
   refine CW.loop2 [(1, _), (6, _), (7, _), (10, _), (11, _)] ⟨rfl, rfl, rfl, rfl, rfl, trivial⟩ (fun (i : Nat) (M : Mx) => [(16, .int .i64 (i : Int))]) (fun i M w' => (i ≤ P.length ∧ Gs (rM l.length P (syL (zerL l P P.length)) P.length 0) P.length M i ∧ Zr P.length M ∧ Blk w' gA 178 (mc4 M) ∧ Blk w' gB 128 (bc4 M) ∧ Own w' w.heap.size 5 1 encN v7 (zerL l P P.length)) ∧ Ex w w') (fun i M => P.length - i) (0) ((rM l.length P (syL (zerL l P P.length)) P.length 0)) ⟨rfl, trivial⟩ ⟨⟨Nat.zero_le _, hg0, rM_zr, hA, hBb, ho7⟩, (Ex.tr hB0 hxwl36)⟩ ?_
   rintro i M wl49 ⟨⟨hi, hgs, hzr, hA, hBb, ho7⟩, hxwl49⟩
   refine CW.sub (S' := [(16, _), (1, _), (6, _), (7, _), (10, _), (11, _)]) ⟨rfl, rfl, rfl, rfl, rfl, rfl, trivial⟩ ?_
   refine CW.seq (CW.seq (CW.region ?_))
   refine RG.vl rfl rfl rfl (Ev.move rfl rfl) ?_
   refine RG.vl rfl rfl rfl (Ev.move rfl rfl) ?_
   refine RG.vl rfl rfl rfl (Ev.lss rfl rfl rfl) ?_
   refine RG.done (QW.then_ ?_)
   refine CW.condP rfl (fun hc50 => ?_) (fun hc50 => ?_)
   ·refine CW.skip (QW.then_ (CW.seq (CW.block (CW.seq (CW.region ?_)))))
    refine RG.vl rfl rfl rfl (Ev.move rfl rfl) ?_
    refine RG.vl rfl rfl rfl (Ev.assign rfl rfl) ?_
    refine RG.done (QW.then_ (CW.seq (CW.block ?_)))
    refine CW.loop1 [(1, _), (6, _), (7, _), (10, _), (11, _), (16, _)] ⟨rfl, rfl, rfl, rfl, rfl, rfl, trivial⟩ (fun (row : Nat) => [(17, .int .i64 (row : Int))]) (fun row w' => (i ≤ row ∧ row ≤ P.length ∧ (∀ r, i ≤ r → r < row → M r i = 0) ∧ Blk w' gA 178 (mc4 M) ∧ Blk w' gB 128 (bc4 M) ∧ Own w' w.heap.size 5 1 encN v7 (zerL l P P.length)) ∧ Ex w w') (fun row => P.length - row) (i) ⟨rfl, trivial⟩ ⟨⟨Nat.le_refl _, by omega, fun r h1 h2 => absurd h1 (by omega), hA, hBb, ho7⟩, (Ex.tr hB0 hxwl49)⟩ ?_
    rintro row wl51 ⟨⟨hrow, hrowk, hz, hA, hBb, ho7⟩, hxwl51⟩
    refine CW.sub (S' := [(17, _), (1, _), (6, _), (7, _), (10, _), (11, _), (16, _)]) ⟨rfl, rfl, rfl, rfl, rfl, rfl, rfl, trivial⟩ ?_
    refine CW.seq (CW.seq (CW.region ?_))
    refine RG.vl rfl rfl rfl (Ev.move rfl rfl) ?_
    refine RG.vl rfl rfl rfl (Ev.move rfl rfl) ?_
    refine RG.vl rfl rfl rfl (Ev.lss rfl rfl rfl) ?_
    refine RG.vl rfl rfl rfl (Ev.move rfl rfl) ?_
    refine RG.split (d := 85) rfl (fun hg52 => ?_) (fun hg52 => ?_)
    ·refine RG.vl rfl rfl rfl (Ev.move rfl rfl) ?_
     refine RG.vl rfl rfl rfl (Ev.move rfl rfl) ?_
     refine RG.vl rfl rfl rfl (Ev.idxA rfl rfl rfl Tryz.underlying178 sz_128 (by omega)) ?_
     refine RG.vl rfl rfl rfl (Ev.idxA rfl rfl rfl Tryz.underlying128 sz_5 (by omega)) ?_
     refine RG.vl rfl rfl rfl (Ev.ldAA rfl rfl Tryz.underlying5 rfl (hA.cells) ((show (mc4 M)[row * 4 + i * 1]? = some (.int .u8 (M row i : Int)) by rw [mc4_at _ (by omega) (by omega)]))) ?_
     refine RG.vl rfl rfl rfl (Ev.eqI rfl rfl rfl) ?_
     refine RG.vl rfl rfl rfl (Ev.pickT rfl rfl rfl) ?_
     refine RG.done (QW.then_ ?_)
     refine CW.condP rfl (fun hc53 => ?_) (fun hc53 => ?_)
     ·refine CW.skip (QW.then_ (CW.block (CW.region ?_)))
      refine RG.vl rfl rfl rfl (Ev.move rfl rfl) ?_
      refine RG.vl rfl rfl rfl (Ev.addI rfl rfl rfl (by omega)) ?_
      refine RG.vl rfl rfl rfl (Ev.assign rfl rfl) ?_
      refine RG.done ?_
      refine QW.sub (S' := [(1, _), (6, _), (7, _), (10, _), (11, _), (16, _), (17, _)]) ⟨rfl, rfl, rfl, rfl, rfl, rfl, rfl, trivial⟩ ?_
      refine QW.blockN ?_
      refine QW.round1 (row + 1) ⟨rfl, trivial⟩ ⟨rfl, rfl, rfl, rfl, rfl, rfl, trivial⟩ ⟨⟨by omega, by omega, fun r h1 h2 => by rcases Nat.lt_or_ge r row with h | h; exact hz r h1 h; obtain rfl : r = row := (by omega); omega, hA, hBb, ho7⟩, (Ex.tr hB0 hxwl51)⟩ (by omega)
     ·refine CW.exit (QW.thenExit (QW.thenExit (QW.blockHit (QW.then_ (CW.seq (CW.seq ?_))))))
      refine CW.region ?_
      refine RG.vl rfl rfl rfl (Ev.move rfl rfl) ?_
      refine RG.vl rfl rfl rfl (Ev.move rfl rfl) ?_
      refine RG.vl rfl rfl rfl (Ev.isF (Ev.eqI rfl rfl rfl) (by omega)) ?_
      refine RG.done ?_
      refine QW.sub (S' := [(1, _), (6, _), (7, _), (10, _), (11, _), (16, _), (17, _), (97, _)]) ⟨rfl, rfl, rfl, rfl, rfl, rfl, rfl, rfl, trivial⟩ ?_
      refine QW.then_ ?_
      refine CW.condF rfl ?_
      refine CW.skip (QW.then_ (CW.seq ?_))
      have h0 : M row i ≠ 0 := by omega
      have hr4 : row < 4 := by omega
      have hri : row < P.length := by omega
      have h64 := hgs.el row i hr4 (by omega)
      have hgi := (gi_lt (M row i)).2
      refine CW.draw [9, 11] (.ex) 12 rfl mixed (fun wd54 hxwd54 => ?_)
      replace hxwl51 := Ex.tr hxwl51 hxwd54
      have hE55 := hxwd54
      refine AG.takeW 0 rfl (by kernel_rfl) (by kernel_rfl) rfl rfl rfl (fun _ => Ev.move rfl rfl) ?_
      refine AG.takeW 1 rfl (by kernel_rfl) (by kernel_rfl) rfl rfl rfl (fun _ => Ev.move rfl rfl) ?_
      refine AG.takeW 2 rfl (by kernel_rfl) (by kernel_rfl) rfl rfl rfl (fun _ => Ev.move rfl rfl) ?_
      refine AG.takeW 3 rfl (by kernel_rfl) (by kernel_rfl) rfl rfl rfl (fun _ => Ev.idxA rfl rfl rfl Tryz.underlying178 sz_128 (by omega)) ?_
      refine AG.take 4 rfl (by kernel_rfl) (by kernel_rfl) rfl rfl rfl (fun wq hq => Ev.ldRow4 (r := row) rfl rfl Tryz.underlying128 rfl sz_128 ((hA.ext hE55).ext hq) (by omega)) ?_
      refine AG.takeW 5 rfl (by kernel_rfl) (by kernel_rfl) rfl rfl rfl (fun _ => Ev.move rfl rfl) ?_
      refine AG.takeW 6 rfl (by kernel_rfl) (by kernel_rfl) rfl rfl rfl (fun _ => Ev.idxA rfl rfl rfl Tryz.underlying178 sz_128 (by omega)) ?_
      refine AG.take 7 rfl (by kernel_rfl) (by kernel_rfl) rfl rfl rfl (fun wq hq => Ev.ldRow4 (r := i) rfl rfl Tryz.underlying128 rfl sz_128 ((hA.ext hE55).ext hq) (by omega)) ?_
      refine AG.takeW 8 rfl (by kernel_rfl) (by kernel_rfl) rfl rfl rfl (fun _ => Ev.idxA rfl rfl rfl Tryz.underlying178 sz_128 (by omega)) ?_
      refine AG.only 9 rfl (by kernel_rfl) ?_
      refine RG.stRow4 (r := i) (M row) rfl rfl rfl rfl rfl sz_128 (hA.ext hE55) (by omega) (fun ws57 hwws57 hbws57 => ?_)
      replace hBb := Blk.far (hBb.ext hE55) hwws57 (by omega)
      replace ho7 := Own.far (Own.ext ho7 hE55) hwws57 hsb21
      replace hxwl51 := Wr.below hxwl51 hwws57 hle23
      refine RG.done ?_
      refine QW.an (fun h => by simp at h) ?_
      refine AG.takeW 10 rfl (by kernel_rfl) (by kernel_rfl) rfl rfl rfl (fun _ => Ev.idxA rfl rfl rfl Tryz.underlying178 sz_128 (by omega)) ?_
      refine AG.only 11 rfl (by kernel_rfl) ?_
      refine RG.stRow4 (r := row) (M i) rfl rfl rfl rfl rfl sz_128 hbws57 (by omega) (fun ws59 hwws59 hbws59 => ?_)
      replace hBb := Blk.far hBb hwws59 (by omega)
      replace ho7 := Own.far ho7 hwws59 hsb21
      replace hxwl51 := Wr.below hxwl51 hwws59 hle23
      replace hbws59 : Blk ws59 gA 178 (mc4 (swp M i row)) := hbws59
      refine RG.done ?_
      refine QW.an (fun h => by simp at h) ?_
      refine AG.done (by kernel_rfl) ?_
      refine QW.then_ (CW.seq ?_)
      refine CW.draw [9, 11] (.ex) 12 rfl mixed (fun wd60 hxwd60 => ?_)
      replace hxwl51 := Ex.tr hxwl51 hxwd60
      have hE61 := hxwd60
      refine AG.takeW 0 rfl (by kernel_rfl) (by kernel_rfl) rfl rfl rfl (fun _ => Ev.move rfl rfl) ?_
      refine AG.takeW 1 rfl (by kernel_rfl) (by kernel_rfl) rfl rfl rfl (fun _ => Ev.move rfl rfl) ?_
      refine AG.takeW 2 rfl (by kernel_rfl) (by kernel_rfl) rfl rfl rfl (fun _ => Ev.move rfl rfl) ?_
      refine AG.takeW 3 rfl (by kernel_rfl) (by kernel_rfl) rfl rfl rfl (fun _ => Ev.idxA rfl rfl rfl Tryz.underlying128 sz_5 (by omega)) ?_
      refine AG.take 4 rfl (by kernel_rfl) (by kernel_rfl) rfl rfl rfl (fun wq hq => Ev.ldAt rfl rfl Tryz.underlying5 rfl (((hBb.ext hE61).ext hq).cells) ((show (bc4 M)[row * 1]? = some (.int .u8 (M row 4 : Int)) by rw [bc4_at _ (by omega)]))) ?_
      refine AG.takeW 5 rfl (by kernel_rfl) (by kernel_rfl) rfl rfl rfl (fun _ => Ev.move rfl rfl) ?_
      refine AG.takeW 6 rfl (by kernel_rfl) (by kernel_rfl) rfl rfl rfl (fun _ => Ev.idxA rfl rfl rfl Tryz.underlying128 sz_5 (by omega)) ?_
      refine AG.take 7 rfl (by kernel_rfl) (by kernel_rfl) rfl rfl rfl (fun wq hq => Ev.ldAt rfl rfl Tryz.underlying5 rfl (((hBb.ext hE61).ext hq).cells) ((show (bc4 M)[i * 1]? = some (.int .u8 (M i 4 : Int)) by rw [bc4_at _ (by omega)]))) ?_
      refine AG.takeW 8 rfl (by kernel_rfl) (by kernel_rfl) rfl rfl rfl (fun _ => Ev.idxA rfl rfl rfl Tryz.underlying128 sz_5 (by omega)) ?_
      refine AG.only 9 rfl (by kernel_rfl) ?_
      refine RG.st (g := gB) (k := _) rfl rfl rfl rfl rfl sz_5 rfl (hBb.ext hE61) (by rw [bc4_len, Nat.blt_eq]; omega) (fun ws63 hwws63 hbws63 => ?_)
      replace ho7 := Own.far (Own.ext ho7 hE61) hwws63 hsb28
      replace hbws59 := Blk.far (hbws59.ext hE61) hwws63 (by omega)
      replace hxwl51 := Wr.below hxwl51 hwws63 hle30
      refine RG.done ?_
      refine QW.an (fun h => by simp at h) ?_
      refine AG.takeW 10 rfl (by kernel_rfl) (by kernel_rfl) rfl rfl rfl (fun _ => Ev.idxA rfl rfl rfl Tryz.underlying128 sz_5 (by omega)) ?_
      refine AG.only 11 rfl (by kernel_rfl) ?_
      refine RG.st (g := gB) (k := _) rfl rfl rfl rfl rfl sz_5 rfl hbws63 (by rw [List.length_set, bc4_len, Nat.blt_eq]; omega) (fun ws65 hwws65 hbws65 => ?_)
      replace ho7 := Own.far ho7 hwws65 hsb28
      replace hbws59 := Blk.far hbws59 hwws65 (by omega)
      replace hxwl51 := Wr.below hxwl51 hwws65 hle30
      rw [bc4_set _ _, bc4_set _ _, swp_b] at hbws65
      refine RG.done ?_
      refine QW.an (fun h => by simp at h) ?_
      refine AG.done (by kernel_rfl) ?_
      refine QW.sub (S' := [(1, _), (6, _), (7, _), (10, _), (11, _), (16, _)]) ⟨rfl, rfl, rfl, rfl, rfl, rfl, trivial⟩ ?_
      refine QW.then_ (CW.seq (CW.region ?_))
      refine RG.vl rfl rfl rfl (Ev.move rfl rfl) ?_
      refine RG.vl rfl rfl rfl (Ev.move rfl rfl) ?_
      refine RG.vl rfl rfl rfl (Ev.idxA rfl rfl rfl Tryz.underlying178 sz_128 (by omega)) ?_
      refine RG.vl rfl rfl rfl (Ev.idxA rfl rfl rfl Tryz.underlying128 sz_5 (by omega)) ?_
      refine RG.vl rfl rfl rfl (Ev.ldAA rfl rfl Tryz.underlying5 rfl (hbws59.cells) ((show (mc4 (swp M i row))[i * 4 + i * 1]? = some (.int .u8 (M row i : Int)) by rw [mc4_at _ (by omega) (by omega), swp_i]))) ?_
      refine RG.call rfl rfl rfl rfl rfl rfl rfl en_93 (rinvN (M row i) _ h64 h0) ?_
      rintro _ w66 ⟨rfl, hx66⟩
      replace hxwl51 := Ex.tr hxwl51 hx66
      have hE67 := hx66
      refine RG.vl rfl rfl rfl (Ev.assign rfl rfl) ?_
      refine RG.done (QW.then_ (CW.seq (CW.seq (CW.region ?_))))
      refine RG.vl rfl rfl rfl (Ev.assign rfl rfl) ?_
      refine RG.done (QW.then_ (CW.block ?_))
      refine CW.loop1 [(1, _), (6, _), (7, _), (10, _), (11, _), (16, _), (18, _)] ⟨rfl, rfl, rfl, rfl, rfl, rfl, rfl, trivial⟩ (fun (j : Nat) => [(19, .int .i64 (j : Int))]) (fun j w' => (j ≤ P.length ∧ Blk w' gA 178 (mc4 (scTo (swp M i row) i (gi (M row i)) j)) ∧ Blk w' gB 128 (bc4 (swp M i row)) ∧ Own w' w.heap.size 5 1 encN v7 (zerL l P P.length)) ∧ Ex w w') (fun j => P.length - j) (0) ⟨rfl, trivial⟩ ⟨⟨Nat.zero_le _, by rw [scTo_zero]; exact (hbws59.ext hE67), (hbws65.ext hE67), (Own.ext ho7 hE67)⟩, (Ex.tr hB0 hxwl51)⟩ ?_
      rintro j wl68 ⟨⟨hj, hA, hBb, ho7⟩, hxwl68⟩
      refine CW.sub (S' := [(19, _), (1, _), (6, _), (7, _), (10, _), (11, _), (16, _), (18, _)]) ⟨rfl, rfl, rfl, rfl, rfl, rfl, rfl, rfl, trivial⟩ ?_
      refine CW.seq (CW.seq (CW.region ?_))
      refine RG.vl rfl rfl rfl (Ev.move rfl rfl) ?_
      refine RG.vl rfl rfl rfl (Ev.move rfl rfl) ?_
      refine RG.vl rfl rfl rfl (Ev.lss rfl rfl rfl) ?_
      refine RG.done (QW.then_ ?_)
      refine CW.condP rfl (fun hc69 => ?_) (fun hc69 => ?_)
      ·refine CW.skip (QW.then_ (CW.seq (CW.block ?_)))
       have e1 : scTo (swp M i row) i (gi (M row i)) j i j = (swp M i row) i j := by unfold scTo; rw [if_neg (by omega)]
       have h1 := hgs.el.swp (show i < 4 by omega) hr4 i j (by omega) (by omega)
       have h2 := gm_lt ((swp M i row) i j) (gi (M row i))
       refine CW.draw [11] (.ex) 12 rfl mixed (fun wd70 hxwd70 => ?_)
       replace hxwl68 := Ex.tr hxwl68 hxwd70
       have hE71 := hxwd70
       refine AG.takeW 0 rfl (by kernel_rfl) (by kernel_rfl) rfl rfl rfl (fun _ => Ev.move rfl rfl) ?_
       refine AG.takeW 1 rfl (by kernel_rfl) (by kernel_rfl) rfl rfl rfl (fun _ => Ev.move rfl rfl) ?_
       refine AG.takeW 2 rfl (by kernel_rfl) (by kernel_rfl) rfl rfl rfl (fun _ => Ev.move rfl rfl) ?_
       refine AG.takeW 3 rfl (by kernel_rfl) (by kernel_rfl) rfl rfl rfl (fun _ => Ev.move rfl rfl) ?_
       refine AG.takeW 4 rfl (by kernel_rfl) (by kernel_rfl) rfl rfl rfl (fun _ => Ev.idxA rfl rfl rfl Tryz.underlying178 sz_128 (by omega)) ?_
       refine AG.takeW 5 rfl (by kernel_rfl) (by kernel_rfl) rfl rfl rfl (fun _ => Ev.idxA rfl rfl rfl Tryz.underlying128 sz_5 (by omega)) ?_
       refine AG.take 6 rfl (by kernel_rfl) (by kernel_rfl) rfl rfl rfl (fun wq hq => Ev.ldAA rfl rfl Tryz.underlying5 rfl (((hA.ext hE71).ext hq).cells) ((show (mc4 _)[i * 4 + j * 1]? = some (.int .u8 ((swp M i row) i j : Int)) by rw [mc4_at _ (by omega) (by omega), e1]))) ?_
       refine AG.takeW 7 rfl (by kernel_rfl) (by kernel_rfl) rfl rfl rfl (fun _ => Ev.move rfl rfl) ?_
       refine AG.takeW 9 rfl (by kernel_rfl) (by kernel_rfl) rfl rfl rfl (fun _ => Ev.idxA rfl rfl rfl Tryz.underlying178 sz_128 (by omega)) ?_
       refine AG.only 8 rfl (by kernel_rfl) ?_
       refine RG.call rfl rfl rfl rfl rfl rfl rfl en_90 (rmul_ret _ _ _ (by exact h1) (by exact hgi)) ?_
       rintro _ w73 ⟨rfl, hx73⟩
       replace hxwl68 := Ex.tr hxwl68 hx73
       replace hE71 := Ex.tr hE71 hx73
       have hE74 := hx73
       refine RG.done ?_
       refine QW.an (fun _ => hE74) ?_
       refine AG.takeW 10 rfl (by kernel_rfl) (by kernel_rfl) rfl rfl rfl (fun _ => Ev.idxA rfl rfl rfl Tryz.underlying128 sz_5 (by omega)) ?_
       refine AG.only 11 rfl (by kernel_rfl) ?_
       refine RG.st2 (g := gA) rfl rfl rfl rfl rfl sz_5 rfl (hA.ext hE71) (by rw [mc4_len, Nat.blt_eq]; omega) (fun ws76 hwws76 hbws76 => ?_)
       replace hBb := Blk.far (hBb.ext hE71) hwws76 (by omega)
       replace ho7 := Own.far (Own.ext ho7 hE71) hwws76 hsb21
       replace hxwl68 := Wr.below hxwl68 hwws76 hle23
       rw [mc4_set _ _ (by omega), scTo_more] at hbws76
       refine RG.done ?_
       refine QW.an (fun h => by simp at h) ?_
       refine AG.done (by kernel_rfl) ?_
       refine QW.sub (S' := [(1, _), (6, _), (7, _), (10, _), (11, _), (16, _), (18, _), (19, _)]) ⟨rfl, rfl, rfl, rfl, rfl, rfl, rfl, rfl, trivial⟩ ?_
       refine QW.blockN (QW.then_ (CW.region ?_))
       refine RG.vl rfl rfl rfl (Ev.move rfl rfl) ?_
       refine RG.vl rfl rfl rfl (Ev.addI rfl rfl rfl (by omega)) ?_
       refine RG.vl rfl rfl rfl (Ev.assign rfl rfl) ?_
       refine RG.done ?_
       refine QW.round1 (j + 1) ⟨rfl, trivial⟩ ⟨rfl, rfl, rfl, rfl, rfl, rfl, rfl, trivial⟩ ⟨⟨by omega, hbws76, hBb, ho7⟩, (Ex.tr hB0 hxwl68)⟩ (by omega)
      ·refine CW.exit (QW.thenExit (QW.thenExit (QW.blockHit (QW.then_ (CW.seq ?_)))))
       obtain rfl : j = P.length := by omega
       have h1 := hgs.el.swp (show i < 4 by omega) hr4 i 4 (by omega) (by omega)
       have h2 := gm_lt ((swp M i row) i 4) (gi (M row i))
       refine CW.region ?_
       refine RG.vl rfl rfl rfl (Ev.move rfl rfl) ?_
       refine RG.vl rfl rfl rfl (Ev.move rfl rfl) ?_
       refine RG.vl rfl rfl rfl (Ev.idxA rfl rfl rfl Tryz.underlying128 sz_5 (by omega)) ?_
       refine RG.vl rfl rfl rfl (Ev.ldAt rfl rfl Tryz.underlying5 rfl (hBb.cells) ((show (bc4 (swp M i row))[i * 1]? = some (.int .u8 ((swp M i row) i 4 : Int)) by rw [bc4_at _ (by omega)]))) ?_
       refine RG.vl rfl rfl rfl (Ev.move rfl rfl) ?_
       refine RG.call rfl rfl rfl rfl rfl rfl rfl en_90 (rmul_ret _ _ _ (by exact h1) (by exact hgi)) ?_
       rintro _ w77 ⟨rfl, hx77⟩
       replace hxwl68 := Ex.tr hxwl68 hx77
       have hE78 := hx77
       refine RG.vl rfl rfl rfl (Ev.idxA rfl rfl rfl Tryz.underlying128 sz_5 (by omega)) ?_
       refine RG.st (g := gB) (k := _) rfl rfl rfl rfl rfl sz_5 rfl (hBb.ext hE78) (by rw [bc4_len, Nat.blt_eq]; omega) (fun ws79 hwws79 hbws79 => ?_)
       replace hA := Blk.far (hA.ext hE78) hwws79 (by omega)
       replace ho7 := Own.far (Own.ext ho7 hE78) hwws79 hsb28
       replace hxwl68 := Wr.below hxwl68 hwws79 hle30
       rw [bc4_set _ _, piv_b] at hbws79
       rw [sc_end hzr (by omega) hri] at hA
       refine RG.done (QW.then_ (CW.seq ?_))
       have hgr0 := gs_piv hgs h4 (by omega) hrow hr4 h0
       have hzr0 := zr_piv hzr (show i < P.length by omega) hri
       refine CW.region ?_
       refine RG.vl rfl rfl rfl (Ev.assign rfl rfl) ?_
       refine RG.done (QW.then_ (CW.block ?_))
       refine CW.loop2 [(1, _), (6, _), (7, _), (10, _), (11, _), (16, _)] ⟨rfl, rfl, rfl, rfl, rfl, rfl, trivial⟩ (fun (row2 : Nat) (M4 : Mx) => [(20, .int .i64 (row2 : Int))]) (fun row2 M4 w' => (row2 ≤ P.length ∧ Gr (rM l.length P (syL (zerL l P P.length)) P.length 0) P.length M4 i row2 ∧ Zr P.length M4 ∧ Blk w' gA 178 (mc4 M4) ∧ Blk w' gB 128 (bc4 M4) ∧ Own w' w.heap.size 5 1 encN v7 (zerL l P P.length)) ∧ Ex w w') (fun row2 M4 => P.length - row2) (0) (pivM M i row) ⟨rfl, trivial⟩ ⟨⟨Nat.zero_le _, hgr0, hzr0, hA, hbws79, ho7⟩, (Ex.tr hB0 hxwl68)⟩ ?_
       rintro row2 M4 wl80 ⟨⟨hrow2, hgr, hgr_z, hA, hBb, ho7⟩, hxwl80⟩
       refine CW.sub (S' := [(20, _), (1, _), (6, _), (7, _), (10, _), (11, _), (16, _)]) ⟨rfl, rfl, rfl, rfl, rfl, rfl, rfl, trivial⟩ ?_
       refine CW.seq (CW.seq (CW.region ?_))
       refine RG.vl rfl rfl rfl (Ev.move rfl rfl) ?_
       refine RG.vl rfl rfl rfl (Ev.move rfl rfl) ?_
       refine RG.vl rfl rfl rfl (Ev.lss rfl rfl rfl) ?_
       refine RG.done (QW.then_ ?_)
       refine CW.condP rfl (fun hc81 => ?_) (fun hc81 => ?_)
       ·refine CW.skip (QW.then_ (CW.seq (CW.block (CW.seq (CW.region ?_)))))
        refine RG.vl rfl rfl rfl (Ev.move rfl rfl) ?_
        refine RG.vl rfl rfl rfl (Ev.move rfl rfl) ?_
        refine RG.vl rfl rfl rfl (Ev.neI rfl rfl rfl) ?_
        refine RG.done (QW.then_ ?_)
        refine CW.condP rfl (fun hc82 => ?_) (fun hc82 => ?_)
        ·refine CW.seq ?_
         have hm64 := hgr.el row2 i (by omega) (by omega)
         refine CW.region ?_
         refine RG.vl rfl rfl rfl (Ev.move rfl rfl) ?_
         refine RG.vl rfl rfl rfl (Ev.move rfl rfl) ?_
         refine RG.vl rfl rfl rfl (Ev.idxA rfl rfl rfl Tryz.underlying178 sz_128 (by omega)) ?_
         refine RG.vl rfl rfl rfl (Ev.idxA rfl rfl rfl Tryz.underlying128 sz_5 (by omega)) ?_
         refine RG.vl rfl rfl rfl (Ev.ldAA rfl rfl Tryz.underlying5 rfl (hA.cells) ((show (mc4 M4)[row2 * 4 + i * 1]? = some (.int .u8 (M4 row2 i : Int)) by rw [mc4_at _ (by omega) (by omega)]))) ?_
         refine RG.vl rfl rfl rfl (Ev.assign rfl rfl) ?_
         refine RG.done (QW.then_ (CW.seq (CW.seq (CW.region ?_))))
         refine RG.vl rfl rfl rfl (Ev.assign rfl rfl) ?_
         refine RG.done (QW.then_ (CW.block ?_))
         refine CW.loop1 [(1, _), (6, _), (7, _), (10, _), (11, _), (16, _), (20, _), (21, _)] ⟨rfl, rfl, rfl, rfl, rfl, rfl, rfl, rfl, trivial⟩ (fun (j : Nat) => [(22, .int .i64 (j : Int))]) (fun j w' => (j ≤ P.length ∧ Blk w' gA 178 (mc4 (subTo M4 row2 i (M4 row2 i) j)) ∧ Blk w' gB 128 (bc4 M4) ∧ Own w' w.heap.size 5 1 encN v7 (zerL l P P.length)) ∧ Ex w w') (fun j => P.length - j) (0) ⟨rfl, trivial⟩ ⟨⟨Nat.zero_le _, by rw [subTo_zero]; exact hA, hBb, ho7⟩, (Ex.tr hB0 hxwl80)⟩ ?_
         rintro j wl83 ⟨⟨hj, hA, hBb, ho7⟩, hxwl83⟩
         refine CW.sub (S' := [(22, _), (1, _), (6, _), (7, _), (10, _), (11, _), (16, _), (20, _), (21, _)]) ⟨rfl, rfl, rfl, rfl, rfl, rfl, rfl, rfl, rfl, trivial⟩ ?_
         refine CW.seq (CW.seq (CW.region ?_))
         refine RG.vl rfl rfl rfl (Ev.move rfl rfl) ?_
         refine RG.vl rfl rfl rfl (Ev.move rfl rfl) ?_
         refine RG.vl rfl rfl rfl (Ev.lss rfl rfl rfl) ?_
         refine RG.done (QW.then_ ?_)
         refine CW.condP rfl (fun hc84 => ?_) (fun hc84 => ?_)
         ·refine CW.skip (QW.then_ (CW.seq (CW.block ?_)))
          have e1 : subTo M4 row2 i (M4 row2 i) j i j = M4 i j := by unfold subTo; rw [if_neg (by omega)]
          have e2 : subTo M4 row2 i (M4 row2 i) j row2 j = M4 row2 j := by unfold subTo; rw [if_neg (by omega)]
          have h1 := hgr.el i j (by omega) (by omega)
          have h2 := hgr.el row2 j (by omega) (by omega)
          have h3 := gm_lt (M4 row2 i) (M4 i j)
          have h5 := xor_lt64 _ _ h2 h3
          refine CW.draw [17] (.ex) 18 rfl mixed (fun wd85 hxwd85 => ?_)
          replace hxwl83 := Ex.tr hxwl83 hxwd85
          have hE86 := hxwd85
          refine AG.takeW 0 rfl (by kernel_rfl) (by kernel_rfl) rfl rfl rfl (fun _ => Ev.move rfl rfl) ?_
          refine AG.takeW 1 rfl (by kernel_rfl) (by kernel_rfl) rfl rfl rfl (fun _ => Ev.move rfl rfl) ?_
          refine AG.takeW 2 rfl (by kernel_rfl) (by kernel_rfl) rfl rfl rfl (fun _ => Ev.move rfl rfl) ?_
          refine AG.takeW 3 rfl (by kernel_rfl) (by kernel_rfl) rfl rfl rfl (fun _ => Ev.move rfl rfl) ?_
          refine AG.takeW 4 rfl (by kernel_rfl) (by kernel_rfl) rfl rfl rfl (fun _ => Ev.idxA rfl rfl rfl Tryz.underlying178 sz_128 (by omega)) ?_
          refine AG.takeW 5 rfl (by kernel_rfl) (by kernel_rfl) rfl rfl rfl (fun _ => Ev.idxA rfl rfl rfl Tryz.underlying128 sz_5 (by omega)) ?_
          refine AG.take 6 rfl (by kernel_rfl) (by kernel_rfl) rfl rfl rfl (fun wq hq => Ev.ldAA rfl rfl Tryz.underlying5 rfl (((hA.ext hE86).ext hq).cells) ((show (mc4 _)[row2 * 4 + j * 1]? = some (.int .u8 (M4 row2 j : Int)) by rw [mc4_at _ (by omega) (by omega), e2]))) ?_
          refine AG.takeW 7 rfl (by kernel_rfl) (by kernel_rfl) rfl rfl rfl (fun _ => Ev.move rfl rfl) ?_
          refine AG.takeW 8 rfl (by kernel_rfl) (by kernel_rfl) rfl rfl rfl (fun _ => Ev.move rfl rfl) ?_
          refine AG.takeW 9 rfl (by kernel_rfl) (by kernel_rfl) rfl rfl rfl (fun _ => Ev.move rfl rfl) ?_
          refine AG.takeW 10 rfl (by kernel_rfl) (by kernel_rfl) rfl rfl rfl (fun _ => Ev.idxA rfl rfl rfl Tryz.underlying178 sz_128 (by omega)) ?_
          refine AG.takeW 11 rfl (by kernel_rfl) (by kernel_rfl) rfl rfl rfl (fun _ => Ev.idxA rfl rfl rfl Tryz.underlying128 sz_5 (by omega)) ?_
          refine AG.take 12 rfl (by kernel_rfl) (by kernel_rfl) rfl rfl rfl (fun wq hq => Ev.ldAA rfl rfl Tryz.underlying5 rfl (((hA.ext hE86).ext hq).cells) ((show (mc4 _)[i * 4 + j * 1]? = some (.int .u8 (M4 i j : Int)) by rw [mc4_at _ (by omega) (by omega), e1]))) ?_
          refine AG.takeW 15 rfl (by kernel_rfl) (by kernel_rfl) rfl rfl rfl (fun _ => Ev.idxA rfl rfl rfl Tryz.underlying178 sz_128 (by omega)) ?_
          refine AG.only 13 rfl (by kernel_rfl) ?_
          refine RG.call rfl rfl rfl rfl rfl rfl rfl en_90 (rmul_ret _ _ _ (by exact hm64) (by exact h1)) ?_
          rintro _ w88 ⟨rfl, hx88⟩
          replace hxwl83 := Ex.tr hxwl83 hx88
          replace hE86 := Ex.tr hE86 hx88
          have hE89 := hx88
          refine RG.done ?_
          refine QW.an (fun _ => hE89) ?_
          refine AG.takeW 14 rfl (by kernel_rfl) (by kernel_rfl) rfl rfl rfl (fun _ => Ev.xor8 rfl rfl rfl (by omega) (by omega)) ?_
          refine AG.takeW 16 rfl (by kernel_rfl) (by kernel_rfl) rfl rfl rfl (fun _ => Ev.idxA rfl rfl rfl Tryz.underlying128 sz_5 (by omega)) ?_
          refine AG.only 17 rfl (by kernel_rfl) ?_
          refine RG.st2 (g := gA) rfl rfl rfl rfl rfl sz_5 rfl (hA.ext hE86) (by rw [mc4_len, Nat.blt_eq]; omega) (fun ws91 hwws91 hbws91 => ?_)
          replace hBb := Blk.far (hBb.ext hE86) hwws91 (by omega)
          replace ho7 := Own.far (Own.ext ho7 hE86) hwws91 hsb21
          replace hxwl83 := Wr.below hxwl83 hwws91 hle23
          rw [mc4_set _ _ (by omega), subTo_more] at hbws91
          refine RG.done ?_
          refine QW.an (fun h => by simp at h) ?_
          refine AG.done (by kernel_rfl) ?_
          refine QW.sub (S' := [(1, _), (6, _), (7, _), (10, _), (11, _), (16, _), (20, _), (21, _), (22, _)]) ⟨rfl, rfl, rfl, rfl, rfl, rfl, rfl, rfl, rfl, trivial⟩ ?_
          refine QW.blockN (QW.then_ (CW.region ?_))
          refine RG.vl rfl rfl rfl (Ev.move rfl rfl) ?_
          refine RG.vl rfl rfl rfl (Ev.addI rfl rfl rfl (by omega)) ?_
          refine RG.vl rfl rfl rfl (Ev.assign rfl rfl) ?_
          refine RG.done ?_
          refine QW.round1 (j + 1) ⟨rfl, trivial⟩ ⟨rfl, rfl, rfl, rfl, rfl, rfl, rfl, rfl, trivial⟩ ⟨⟨by omega, hbws91, hBb, ho7⟩, (Ex.tr hB0 hxwl83)⟩ (by omega)
         ·refine CW.exit (QW.thenExit (QW.thenExit (QW.blockHit (QW.then_ ?_))))
          obtain rfl : j = P.length := by omega
          have h1 := hgr.el i 4 (by omega) (by omega)
          have h2 := hgr.el row2 4 (by omega) (by omega)
          have h3 := gm_lt (M4 row2 i) (M4 i 4)
          have h5 := xor_lt64 _ _ h2 h3
          refine CW.draw [11] (.ex) 12 rfl mixed (fun wd92 hxwd92 => ?_)
          replace hxwl83 := Ex.tr hxwl83 hxwd92
          have hE93 := hxwd92
          refine AG.takeW 0 rfl (by kernel_rfl) (by kernel_rfl) rfl rfl rfl (fun _ => Ev.move rfl rfl) ?_
          refine AG.takeW 1 rfl (by kernel_rfl) (by kernel_rfl) rfl rfl rfl (fun _ => Ev.move rfl rfl) ?_
          refine AG.takeW 2 rfl (by kernel_rfl) (by kernel_rfl) rfl rfl rfl (fun _ => Ev.idxA rfl rfl rfl Tryz.underlying128 sz_5 (by omega)) ?_
          refine AG.take 3 rfl (by kernel_rfl) (by kernel_rfl) rfl rfl rfl (fun wq hq => Ev.ldAt rfl rfl Tryz.underlying5 rfl (((hBb.ext hE93).ext hq).cells) ((show (bc4 M4)[row2 * 1]? = some (.int .u8 (M4 row2 4 : Int)) by rw [bc4_at _ (by omega)]))) ?_
          refine AG.takeW 4 rfl (by kernel_rfl) (by kernel_rfl) rfl rfl rfl (fun _ => Ev.move rfl rfl) ?_
          refine AG.takeW 5 rfl (by kernel_rfl) (by kernel_rfl) rfl rfl rfl (fun _ => Ev.move rfl rfl) ?_
          refine AG.takeW 6 rfl (by kernel_rfl) (by kernel_rfl) rfl rfl rfl (fun _ => Ev.idxA rfl rfl rfl Tryz.underlying128 sz_5 (by omega)) ?_
          refine AG.take 7 rfl (by kernel_rfl) (by kernel_rfl) rfl rfl rfl (fun wq hq => Ev.ldAt rfl rfl Tryz.underlying5 rfl (((hBb.ext hE93).ext hq).cells) ((show (bc4 M4)[i * 1]? = some (.int .u8 (M4 i 4 : Int)) by rw [bc4_at _ (by omega)]))) ?_
          refine AG.only 8 rfl (by kernel_rfl) ?_
          refine RG.call rfl rfl rfl rfl rfl rfl rfl en_90 (rmul_ret _ _ _ (by exact hm64) (by exact h1)) ?_
          rintro _ w95 ⟨rfl, hx95⟩
          replace hxwl83 := Ex.tr hxwl83 hx95
          replace hE93 := Ex.tr hE93 hx95
          have hE96 := hx95
          refine RG.done ?_
          refine QW.an (fun _ => hE96) ?_
          refine AG.takeW 9 rfl (by kernel_rfl) (by kernel_rfl) rfl rfl rfl (fun _ => Ev.xor8 rfl rfl rfl (by omega) (by omega)) ?_
          refine AG.takeW 10 rfl (by kernel_rfl) (by kernel_rfl) rfl rfl rfl (fun _ => Ev.idxA rfl rfl rfl Tryz.underlying128 sz_5 (by omega)) ?_
          refine AG.only 11 rfl (by kernel_rfl) ?_
          refine RG.st (g := gB) (k := _) rfl rfl rfl rfl rfl sz_5 rfl (hBb.ext hE93) (by rw [bc4_len, Nat.blt_eq]; omega) (fun ws98 hwws98 hbws98 => ?_)
          replace hA := Blk.far (hA.ext hE93) hwws98 (by omega)
          replace ho7 := Own.far (Own.ext ho7 hE93) hwws98 hsb28
          replace hxwl83 := Wr.below hxwl83 hwws98 hle30
          rw [bc4_set _ _, sub_b0] at hbws98
          rw [sub_end hgr_z (by omega) h4] at hA
          refine RG.done ?_
          refine QW.an (fun h => by simp at h) ?_
          refine AG.done (by kernel_rfl) ?_
          refine QW.sub (S' := [(1, _), (6, _), (7, _), (10, _), (11, _), (16, _), (20, _)]) ⟨rfl, rfl, rfl, rfl, rfl, rfl, rfl, trivial⟩ ?_
          refine QW.blockN (QW.then_ (CW.region ?_))
          refine RG.vl rfl rfl rfl (Ev.move rfl rfl) ?_
          refine RG.vl rfl rfl rfl (Ev.addI rfl rfl rfl (by omega)) ?_
          refine RG.vl rfl rfl rfl (Ev.assign rfl rfl) ?_
          refine RG.done ?_
          refine QW.round2 (row2 + 1) (subTo M4 row2 i (M4 row2 i) 5) ⟨rfl, trivial⟩ ⟨rfl, rfl, rfl, rfl, rfl, rfl, trivial⟩ ⟨⟨by omega, gr_sub hgr h4 (by omega) (by omega) (by omega), zr_sub hgr_z (by omega) (by omega), hA, hbws98, ho7⟩, (Ex.tr hB0 hxwl83)⟩ (by omega)
        ·refine CW.skip (QW.blockN (QW.then_ (CW.region ?_)))
         refine RG.vl rfl rfl rfl (Ev.move rfl rfl) ?_
         refine RG.vl rfl rfl rfl (Ev.addI rfl rfl rfl (by omega)) ?_
         refine RG.vl rfl rfl rfl (Ev.assign rfl rfl) ?_
         refine RG.done ?_
         refine QW.round2 (row2 + 1) (M4) ⟨rfl, trivial⟩ ⟨rfl, rfl, rfl, rfl, rfl, rfl, trivial⟩ ⟨⟨by omega, gr_skip hgr (.inl (by omega)), hgr_z, hA, hBb, ho7⟩, (Ex.tr hB0 hxwl80)⟩ (by omega)
       ·refine CW.exit (QW.thenExit (QW.thenExit (QW.blockHit (QW.blockN (QW.then_ (CW.region ?_))))))
        refine RG.vl rfl rfl rfl (Ev.move rfl rfl) ?_
        refine RG.vl rfl rfl rfl (Ev.addI rfl rfl rfl (by omega)) ?_
        refine RG.vl rfl rfl rfl (Ev.assign rfl rfl) ?_
        refine RG.done ?_
        refine QW.round2 (i + 1) (M4) ⟨rfl, trivial⟩ ⟨rfl, rfl, rfl, rfl, rfl, trivial⟩ ⟨⟨by omega, (by obtain rfl : row2 = P.length := (by omega); exact gr_tail hgr_z (by omega) h4 hgr), hgr_z, hA, hBb, ho7⟩, (Ex.tr hB0 hxwl80)⟩ (by omega)
    ·refine RG.pass rfl rfl rfl ?_
     refine RG.pass rfl rfl rfl ?_
     refine RG.pass rfl rfl rfl ?_
     refine RG.pass rfl rfl rfl ?_
     refine RG.pass rfl rfl rfl ?_
     refine RG.pass rfl rfl rfl ?_
     refine RG.vl rfl rfl rfl (Ev.pickF rfl rfl rfl) ?_
     refine RG.done (QW.then_ ?_)
     refine CW.condF rfl ?_
     refine CW.exit (QW.thenExit (QW.thenExit (QW.blockHit (QW.then_ (CW.seq (CW.seq ?_))))))
     refine CW.region ?_
     refine RG.vl rfl rfl rfl (Ev.move rfl rfl) ?_
     refine RG.vl rfl rfl rfl (Ev.move rfl rfl) ?_
     refine RG.vl rfl rfl rfl (Ev.isT (Ev.eqI rfl rfl rfl) (by omega)) ?_
     refine RG.done ?_
     refine QW.sub (S' := [(1, _), (6, _), (7, _), (10, _), (11, _), (16, _), (17, _), (97, _)]) ⟨rfl, rfl, rfl, rfl, rfl, rfl, rfl, rfl, trivial⟩ ?_
     refine QW.then_ ?_
     refine CW.condT rfl ?_
     refine CW.seq (CW.region ?_)
     refine RG.vl rfl rfl rfl (Ev.assign rfl rfl) ?_
     refine RG.vl rfl rfl rfl (Ev.assign rfl rfl) ?_
     refine RG.done (QW.then_ (CW.ret (QW.thenRet (QW.blockR (QW.thenRet (QW.thenRet ?_))))))
     refine QW.blockR (QW.thenRet ?_)
     refine QW.ret2 rfl rfl rfl ?_
     have hB := (Ex.tr hB0 hxwl51)
     exact ⟨_, false, [], rfl, Own.nil_ _ _ _ _ _, (fun h => by cases h), fun _ => fil_none hle hw2 hd h4 hp hgs hzr (by omega) (fun r h1 h2 => hz r h1 (by omega)), hB⟩
   ·refine CW.exit (QW.thenExit (QW.thenExit (QW.blockHit (QW.then_ (CW.seq (CW.seq ?_))))))
    obtain rfl : i = P.length := by omega
    refine CW.region ?_
    refine RG.vl rfl rfl rfl (Ev.assign rfl rfl) ?_
    refine RG.done (QW.then_ (CW.block ?_))
    refine CW.loop1 [(1, _), (6, _), (7, _), (11, _)] ⟨rfl, rfl, rfl, rfl, trivial⟩ (fun (i2 : Nat) => [(23, .int .i64 (i2 : Int))]) (fun i2 w' => (i2 ≤ P.length ∧ Blk w' gA 178 (mc4 M) ∧ Blk w' gB 128 (bc4 M) ∧ Own w' w.heap.size 5 1 encN v7 (putL (zerL l P P.length) P M i2)) ∧ Ex w w') (fun i2 => P.length - i2) (0) ⟨rfl, trivial⟩ ⟨⟨Nat.zero_le _, hA, hBb, ho7⟩, (Ex.tr hB0 hxwl49)⟩ ?_
    rintro i2 wl99 ⟨⟨hi2, hA, hBb, ho7⟩, hxwl99⟩
    refine CW.sub (S' := [(23, _), (1, _), (6, _), (7, _), (11, _)]) ⟨rfl, rfl, rfl, rfl, rfl, trivial⟩ ?_
    refine CW.seq (CW.seq (CW.region ?_))
    refine RG.vl rfl rfl rfl (Ev.move rfl rfl) ?_
    refine RG.vl rfl rfl rfl (Ev.move rfl rfl) ?_
    refine RG.vl rfl rfl rfl (Ev.lss rfl rfl rfl) ?_
    refine RG.done (QW.then_ ?_)
    refine CW.condP rfl (fun hc100 => ?_) (fun hc100 => ?_)
    ·refine CW.skip (QW.then_ (CW.seq (CW.block ?_)))
     have hpi := hp _ (List.mem_of_getElem? (getElem?_cf (p := P) (k := i2) (by omega)))
     have hpl := putL_len (zerL l P P.length) P M i2
     have hM4 := hgs.el i2 4 (by omega) (by omega)
     refine CW.draw [9] (.ex) 10 rfl mixed (fun wd101 hxwd101 => ?_)
     replace hxwl99 := Ex.tr hxwl99 hxwd101
     have hE102 := hxwd101
     refine AG.takeW 0 rfl (by kernel_rfl) (by kernel_rfl) rfl rfl rfl (fun _ => Ev.move rfl rfl) ?_
     refine AG.takeW 1 rfl (by kernel_rfl) (by kernel_rfl) rfl rfl rfl (fun _ => Ev.move rfl rfl) ?_
     refine AG.takeW 2 rfl (by kernel_rfl) (by kernel_rfl) rfl rfl rfl (fun _ => Ev.move rfl rfl) ?_
     refine AG.idxL _ 3 rfl (by kernel_rfl) (by kernel_rfl) rfl rfl rfl rfl rfl rfl Tryz.underlying29 sz_3 ((hm.ext hxwl99)) (getElem?_cf (by omega)) (fun p103 hp103b hp103 => ?_)
     refine AG.take 4 rfl (by kernel_rfl) (by kernel_rfl) rfl rfl rfl (fun wq hq => Ev.ld0 rfl rfl Tryz.underlying3 rfl (hp103.ext hq hp103b) (rfl)) ?_
     refine AG.takeW 5 rfl (by kernel_rfl) (by kernel_rfl) rfl rfl rfl (fun _ => Ev.move rfl rfl) ?_
     refine AG.takeW 6 rfl (by kernel_rfl) (by kernel_rfl) rfl rfl rfl (fun _ => Ev.idxA rfl rfl rfl Tryz.underlying128 sz_5 (by omega)) ?_
     refine AG.take 7 rfl (by kernel_rfl) (by kernel_rfl) rfl rfl rfl (fun wq hq => Ev.ldAt rfl rfl Tryz.underlying5 rfl (((hBb.ext hE102).ext hq).cells) ((show (bc4 M)[i2 * 1]? = some (.int .u8 (M i2 4 : Int)) by rw [bc4_at _ (by omega)]))) ?_
     refine AG.idxO _ 8 rfl (by kernel_rfl) (by kernel_rfl) rfl rfl rfl rfl rfl rfl Tryz.underlying58 sz_5 encN_len ((Own.ext ho7 hE102)) (getElem?_cf (show cf P i2 < _ by omega)) (fun g105 hg105 hBg105 hp104b hp104 => ?_)
     refine AG.only 9 rfl (by kernel_rfl) ?_
     refine RG.stOw0 (g := g105) (M i2 4) rfl rfl rfl rfl rfl sz_5 rfl (fun _ => rfl) (Own.ext ho7 hE102) hg105 (getElem?_cf (show cf P i2 < _ by omega)) rfl (rfl) (fun ws107 hwws107 hown108 => ?_)
     replace hA := Blk.far (hA.ext hE102) hwws107 (fun e => hsb21 (by rw [e]; exact hg105))
     replace hBb := Blk.far (hBb.ext hE102) hwws107 (fun e => hsb28 (by rw [e]; exact hg105))
     replace hxwl99 := Wr.below hxwl99 hwws107 hBg105
     refine RG.done ?_
     refine QW.an (fun h => by simp at h) ?_
     refine AG.done (by kernel_rfl) ?_
     refine QW.blockN (QW.then_ (CW.region ?_))
     refine RG.vl rfl rfl rfl (Ev.move rfl rfl) ?_
     refine RG.vl rfl rfl rfl (Ev.addI rfl rfl rfl (by omega)) ?_
     refine RG.vl rfl rfl rfl (Ev.assign rfl rfl) ?_
     refine RG.done ?_
     refine QW.sub (S' := [(1, _), (6, _), (7, _), (11, _), (23, _)]) ⟨rfl, rfl, rfl, rfl, rfl, trivial⟩ ?_
     refine QW.round1 (i2 + 1) ⟨rfl, trivial⟩ ⟨rfl, rfl, rfl, rfl, trivial⟩ ⟨⟨by omega, hA, hBb, hown108⟩, (Ex.tr hB0 hxwl99)⟩ (by omega)
    ·refine CW.exit (QW.thenExit (QW.thenExit (QW.blockHit (QW.then_ (CW.seq ?_)))))
     have hpl := putL_len (zerL l P P.length) P M i2
     refine CW.region ?_
     refine RG.vl rfl rfl rfl (Ev.move rfl rfl) ?_
     refine RG.vl rfl rfl rfl (Ev.move rfl rfl) ?_
     refine RG.call rfl rfl rfl rfl rfl rfl rfl en_116 (rvalid_ret _ _ _ ((ho7.rdl encN_len)) (by omega)) ?_
     rintro _ w109 ⟨rfl, hx109⟩
     replace hxwl99 := Ex.tr hxwl99 hx109
     have hE110 := hx109
     refine RG.vl rfl rfl rfl (Ev.assign rfl rfl) ?_
     refine RG.vl rfl rfl rfl (Ev.assign rfl rfl) ?_
     refine RG.done (QW.then_ (CW.ret ?_))
     refine QW.ret2 rfl rfl rfl ?_
     have hB := (Ex.tr hB0 hxwl99)
     obtain rfl : i2 = P.length := by omega
     obtain ⟨hy, hn⟩ := fil_end hle hw1 hw2 hd h4 hp hgs hzr
     exact ⟨_, _, _, rfl, (Own.ext ho7 hE110), hy, hn, hB⟩

end Go.Proofs.YtgjnchjkjdnidaaGreat

/- Walks (RO). Written by program. -/
namespace Go.Proofs.YtgjnchjkjdnidaaGreat
open Go.RowKit
set_option maxRecDepth 100000 in
set_option maxHeartbeats 1000000 in
theorem rhas_ret (u : Value) (L : List Int) (n : Int) (w : World) (hl : RdL w 1 encI u L) (hlen : L.length ≤ 100000) :
  Ret Tryz.prog 77 [u, .int .i64 n] w (fun v w' => v = .bool (decide (n ∈ L)) ∧ Ex w w') := by
 have hB0 : Ex w w := Ex.rfl_ _
 refine Ret.of Tryz.func77 rfl Tryz.ntmps77 rfl ?_
 refine CW.seq (CW.region ?_)
 refine RG.vl rfl rfl rfl (Ev.assign rfl rfl) ?_
 refine RG.done (QW.then_ (CW.seq (CW.seq (CW.region ?_))))
 refine RG.vl rfl rfl rfl (Ev.assign rfl rfl) ?_
 refine RG.done (QW.then_ (CW.block ?_))
 refine CW.loop1 [(0, _), (1, _)] ⟨rfl, rfl, trivial⟩ (fun (i : Nat) => [(5, .int .i64 (i : Int))]) (fun i w' => (i ≤ L.length ∧ ∀ j a, j < i → L[j]? = some a → a ≠ n) ∧ Ex w w') (fun i => L.length - i) (0) ⟨rfl, trivial⟩ ⟨⟨Nat.zero_le _, fun j a h => absurd h (by omega)⟩, hB0⟩ ?_
 rintro i wl1 ⟨⟨hi, hno⟩, hxwl1⟩
 refine CW.sub (S' := [(5, _), (0, _), (1, _)]) ⟨rfl, rfl, rfl, trivial⟩ ?_
 refine CW.seq (CW.seq (CW.region ?_))
 refine RG.vl rfl rfl rfl (Ev.move rfl rfl) ?_
 refine RG.vl rfl rfl rfl (Ev.move rfl rfl) ?_
 refine RG.vl rfl rfl rfl (Ev.lenL rfl rfl rfl Tryz.underlying29 ((hl.ext hxwl1))) ?_
 refine RG.vl rfl rfl rfl (Ev.lss rfl rfl rfl) ?_
 refine RG.done (QW.then_ ?_)
 refine CW.condP rfl (fun hc2 => ?_) (fun hc2 => ?_)
 ·refine CW.skip (QW.then_ (CW.seq (CW.block (CW.seq ?_))))
  obtain ⟨x, hx⟩ : ∃ x, L[i]? = some x := ⟨_, List.getElem?_eq_getElem (by omega)⟩
  refine CW.region ?_
  refine RG.vl rfl rfl rfl (Ev.move rfl rfl) ?_
  refine RG.vl rfl rfl rfl (Ev.move rfl rfl) ?_
  refine RG.idxL rfl rfl rfl rfl rfl rfl Tryz.underlying29 sz_3 ((hl.ext hxwl1)) (hx) (fun p3 hp3b hp3 => ?_)
  refine RG.vl rfl rfl rfl (Ev.ld0 rfl rfl Tryz.underlying3 rfl (hp3) (rfl)) ?_
  refine RG.vl rfl rfl rfl (Ev.move rfl rfl) ?_
  refine RG.vl rfl rfl rfl (Ev.eqI rfl rfl rfl) ?_
  refine RG.done (QW.then_ ?_)
  refine CW.condP rfl (fun hc4 => ?_) (fun hc4 => ?_)
  ·refine CW.seq (CW.region ?_)
   refine RG.vl rfl rfl rfl (Ev.assign rfl rfl) ?_
   refine RG.done (QW.then_ (CW.ret (QW.blockR (QW.thenRet (QW.thenRet (QW.blockR ?_))))))
   refine QW.thenRet ?_
   refine QW.ret1 rfl rfl ?_
   have hB := (Ex.tr hB0 hxwl1)
   exact ⟨congrArg Value.bool (by rw [eq_comm, decide_eq_true_iff]; have := List.mem_of_getElem? hx; rwa [show x = n by omega] at this), hB⟩
  ·refine CW.skip (QW.blockN (QW.then_ (CW.region ?_)))
   refine RG.vl rfl rfl rfl (Ev.move rfl rfl) ?_
   refine RG.vl rfl rfl rfl (Ev.addI rfl rfl rfl (by omega)) ?_
   refine RG.vl rfl rfl rfl (Ev.assign rfl rfl) ?_
   refine RG.done ?_
   refine QW.round1 (i + 1) ⟨rfl, trivial⟩ ⟨rfl, rfl, trivial⟩ ⟨⟨by omega, fun j a hj ha => by rcases Nat.lt_or_ge j i with h | h; exact hno j a h ha; obtain rfl : j = i := (by omega); rw [hx] at ha; injection ha with ha; omega⟩, (Ex.tr hB0 hxwl1)⟩ (by omega)
 ·refine CW.exit (QW.thenExit (QW.thenExit (QW.blockHit (QW.then_ (CW.seq (CW.region ?_))))))
  refine RG.vl rfl rfl rfl (Ev.assign rfl rfl) ?_
  refine RG.done (QW.then_ (CW.ret ?_))
  refine QW.ret1 rfl rfl ?_
  have hB := (Ex.tr hB0 hxwl1)
  exact ⟨congrArg Value.bool (by rw [eq_comm, decide_eq_false_iff_not]; intro hm; obtain ⟨j, hj⟩ := List.mem_iff_getElem?.1 hm; exact hno j n (by have := (List.getElem?_eq_some_iff.1 hj).1; omega) hj rfl), hB⟩

set_option maxRecDepth 100000 in
set_option maxHeartbeats 8000000 in
theorem rdecode_ret (u v0 : Value) (l : List Nat) (ei : List Int) (w : World) (hl : RdL w 1 encN u l) (hm : RdL w 1 encI v0 ei) (hlen : l.length ≤ 100000) (hlen2 : ei.length ≤ 100000) :
  Ret Tryz.prog 35 [u, v0] w (fun v w' => ∃ r x c es e, v = .tuple #[r, x, .int .i64 e] ∧ Own w' w.heap.size 5 1 encN r c ∧ Own w' w.heap.size 3 1 encZ x es ∧ RDec l ei e c es ∧ Ex w w') := by
 obtain ⟨uA, uC, rfl⟩ := hl.shape
 obtain ⟨vA, vC, rfl⟩ := hm.shape
 have hB0 : Ex w w := Ex.rfl_ _
 refine Ret.of Tryz.func35 rfl Tryz.ntmps35 rfl ?_
 refine CW.seq (CW.region ?_)
 refine RG.vl rfl rfl rfl (Ev.assign rfl rfl) ?_
 refine RG.vl rfl rfl rfl (Ev.assign rfl rfl) ?_
 refine RG.vl rfl rfl rfl (Ev.assign rfl rfl) ?_
 refine RG.done (QW.then_ (CW.seq (CW.seq (CW.region ?_))))
 refine RG.vl rfl rfl rfl (Ev.move rfl rfl) ?_
 refine RG.call rfl rfl rfl rfl rfl rfl rfl en_76 (rword_ret _ _ _ (hl) (by omega)) ?_
 rintro _ w1 ⟨rfl, hx1⟩
 have hE2 := hx1
 refine RG.vl rfl rfl rfl (Ev.not rfl rfl) ?_
 refine RG.done (QW.then_ ?_)
 refine CW.cond rfl (fun hc3 => ?_) (fun hc3 => ?_)
 ·refine CW.seq (CW.region ?_)
  refine RG.vl rfl rfl rfl (Ev.assign rfl rfl) ?_
  refine RG.vl rfl rfl rfl (Ev.assign rfl rfl) ?_
  refine RG.vl rfl rfl rfl (Ev.assign rfl rfl) ?_
  refine RG.done (QW.then_ (CW.ret (QW.thenRet ?_)))
  refine QW.ret3 rfl rfl rfl rfl ?_
  have hB := (Ex.tr hB0 hE2)
  exact ⟨_, _, [], [], 2, rfl, Own.nil_ _ _ _ _ _, Own.nil_ _ _ _ _ _, .inl ⟨.inl (by simpa using (by assumption : (!isW l) = true)), rfl, rfl, rfl⟩, hB⟩
 ·refine CW.skip (QW.then_ (CW.seq (CW.seq ?_)))
  have hyes : isW l = true := by simpa using (by assumption : (!isW l) = false)
  obtain ⟨hw1, hw2, hle⟩ := isW_iff.1 hyes
  refine CW.region ?_
  refine RG.vl rfl rfl rfl (Ev.assign rfl rfl) ?_
  refine RG.done (QW.then_ (CW.block ?_))
  refine CW.loop1 [(0, _), (1, _)] ⟨rfl, rfl, trivial⟩ (fun (i : Nat) => [(7, .int .i64 (i : Int))]) (fun i w' => (i ≤ ei.length ∧ okE l.length (ei.take i)) ∧ Ex w w') (fun i => ei.length - i) (0) ⟨rfl, trivial⟩ ⟨⟨Nat.zero_le _, by rw [List.take_zero]; exact okE_nil _⟩, (Ex.tr hB0 hE2)⟩ ?_
  rintro i wl4 ⟨⟨hi, hoki⟩, hxwl4⟩
  refine CW.sub (S' := [(7, _), (0, _), (1, _)]) ⟨rfl, rfl, rfl, trivial⟩ ?_
  refine CW.seq (CW.seq (CW.region ?_))
  refine RG.vl rfl rfl rfl (Ev.move rfl rfl) ?_
  refine RG.vl rfl rfl rfl (Ev.move rfl rfl) ?_
  refine RG.vl rfl rfl rfl (Ev.lenL rfl rfl rfl Tryz.underlying29 ((hm.ext hxwl4))) ?_
  refine RG.vl rfl rfl rfl (Ev.lss rfl rfl rfl) ?_
  refine RG.done (QW.then_ ?_)
  refine CW.condP rfl (fun hc5 => ?_) (fun hc5 => ?_)
  ·refine CW.skip (QW.then_ (CW.seq (CW.block (CW.seq ?_))))
   obtain ⟨x, hx⟩ : ∃ x, ei[i]? = some x := ⟨_, List.getElem?_eq_getElem (by omega)⟩
   refine CW.draw [] (.ex) 24 rfl mixed (fun wd6 hxwd6 => ?_)
   replace hxwl4 := Ex.tr hxwl4 hxwd6
   have hE7 := hxwd6
   refine AG.takeW 0 rfl (by kernel_rfl) (by kernel_rfl) rfl rfl rfl (fun _ => Ev.move rfl rfl) ?_
   refine AG.takeW 1 rfl (by kernel_rfl) (by kernel_rfl) rfl rfl rfl (fun _ => Ev.move rfl rfl) ?_
   refine AG.idxL _ 2 rfl (by kernel_rfl) (by kernel_rfl) rfl rfl rfl rfl rfl rfl Tryz.underlying29 sz_3 ((hm.ext hxwl4)) (hx) (fun p8 hp8b hp8 => ?_)
   refine AG.take 3 rfl (by kernel_rfl) (by kernel_rfl) rfl rfl rfl (fun wq hq => Ev.ld0 rfl rfl Tryz.underlying3 rfl (hp8.ext hq hp8b) (rfl)) ?_
   refine AG.takeW 4 rfl (by kernel_rfl) (by kernel_rfl) rfl rfl rfl (fun _ => Ev.lss rfl rfl rfl) ?_
   refine AG.takeW 5 rfl (by kernel_rfl) (by kernel_rfl) rfl rfl rfl (fun _ => Ev.move rfl rfl) ?_
   refine AG.split (d := 31) rfl (fun hg9 => ?_) (fun hg9 => ?_)
   ·refine AG.pass 6 rfl (by kernel_rfl) (by kernel_rfl) rfl rfl rfl ?_
    refine AG.pass 7 rfl (by kernel_rfl) (by kernel_rfl) rfl rfl rfl ?_
    refine AG.pass 8 rfl (by kernel_rfl) (by kernel_rfl) rfl rfl rfl ?_
    refine AG.pass 9 rfl (by kernel_rfl) (by kernel_rfl) rfl rfl rfl ?_
    refine AG.pass 10 rfl (by kernel_rfl) (by kernel_rfl) rfl rfl rfl ?_
    refine AG.pass 11 rfl (by kernel_rfl) (by kernel_rfl) rfl rfl rfl ?_
    refine AG.pass 12 rfl (by kernel_rfl) (by kernel_rfl) rfl rfl rfl ?_
    refine AG.takeW 13 rfl (by kernel_rfl) (by kernel_rfl) rfl rfl rfl (fun _ => Ev.pickT rfl rfl rfl) ?_
    refine AG.takeW 14 rfl (by kernel_rfl) (by kernel_rfl) rfl rfl rfl (fun _ => Ev.move rfl rfl) ?_
    refine AG.pass 15 rfl (by kernel_rfl) (by kernel_rfl) rfl rfl rfl ?_
    refine AG.pass 16 rfl (by kernel_rfl) (by kernel_rfl) rfl rfl rfl ?_
    refine AG.pass 17 rfl (by kernel_rfl) (by kernel_rfl) rfl rfl rfl ?_
    refine AG.pass 18 rfl (by kernel_rfl) (by kernel_rfl) rfl rfl rfl ?_
    refine AG.pass 19 rfl (by kernel_rfl) (by kernel_rfl) rfl rfl rfl ?_
    refine AG.pass 20 rfl (by kernel_rfl) (by kernel_rfl) rfl rfl rfl ?_
    refine AG.pass 21 rfl (by kernel_rfl) (by kernel_rfl) rfl rfl rfl ?_
    refine AG.pass 22 rfl (by kernel_rfl) (by kernel_rfl) rfl rfl rfl ?_
    refine AG.takeW 23 rfl (by kernel_rfl) (by kernel_rfl) rfl rfl rfl (fun _ => Ev.pickT rfl rfl rfl) ?_
    refine AG.done (by kernel_rfl) ?_
    refine QW.sub (S' := [(0, _), (1, _), (7, _), (49, _)]) ⟨rfl, rfl, rfl, rfl, trivial⟩ ?_
    refine QW.then_ ?_
    refine CW.condT rfl ?_
    refine CW.seq (CW.region ?_)
    refine RG.vl rfl rfl rfl (Ev.assign rfl rfl) ?_
    refine RG.vl rfl rfl rfl (Ev.assign rfl rfl) ?_
    refine RG.vl rfl rfl rfl (Ev.assign rfl rfl) ?_
    refine RG.done (QW.then_ (CW.ret (QW.blockR (QW.thenRet (QW.thenRet (QW.blockR ?_))))))
    refine QW.thenRet ?_
    refine QW.ret3 rfl rfl rfl rfl ?_
    have hB := (Ex.tr hB0 hxwl4)
    exact ⟨_, _, [], [], 2, rfl, Own.nil_ _ _ _ _ _, Own.nil_ _ _ _ _ _, .inl ⟨.inr (fun hk => by obtain ⟨k1, k2, k3⟩ := okE_at hk hx; first | omega | exact k3 (of_decide_eq_true (by assumption))), rfl, rfl, rfl⟩, hB⟩
   ·refine AG.takeW 6 rfl (by kernel_rfl) (by kernel_rfl) rfl rfl rfl (fun _ => Ev.move rfl rfl) ?_
    refine AG.takeW 7 rfl (by kernel_rfl) (by kernel_rfl) rfl rfl rfl (fun _ => Ev.move rfl rfl) ?_
    refine AG.idxL _ 8 rfl (by kernel_rfl) (by kernel_rfl) rfl rfl rfl rfl rfl rfl Tryz.underlying29 sz_3 ((hm.ext hxwl4)) (hx) (fun p10 hp10b hp10 => ?_)
    refine AG.take 9 rfl (by kernel_rfl) (by kernel_rfl) rfl rfl rfl (fun wq hq => Ev.ld0 rfl rfl Tryz.underlying3 rfl (hp10.ext hq hp10b) (rfl)) ?_
    refine AG.takeW 10 rfl (by kernel_rfl) (by kernel_rfl) rfl rfl rfl (fun _ => Ev.move rfl rfl) ?_
    refine AG.takeW 11 rfl (by kernel_rfl) (by kernel_rfl) rfl rfl rfl (fun _ => Ev.lenL rfl rfl rfl Tryz.underlying58 ((hl.ext hxwl4))) ?_
    refine AG.takeW 12 rfl (by kernel_rfl) (by kernel_rfl) rfl rfl rfl (fun _ => Ev.geq rfl rfl rfl) ?_
    refine AG.takeW 13 rfl (by kernel_rfl) (by kernel_rfl) rfl rfl rfl (fun _ => Ev.pickF rfl rfl rfl) ?_
    refine AG.takeW 14 rfl (by kernel_rfl) (by kernel_rfl) rfl rfl rfl (fun _ => Ev.move rfl rfl) ?_
    refine AG.split (d := 40) rfl (fun hg11 => ?_) (fun hg11 => ?_)
    ·refine AG.pass 15 rfl (by kernel_rfl) (by kernel_rfl) rfl rfl rfl ?_
     refine AG.pass 16 rfl (by kernel_rfl) (by kernel_rfl) rfl rfl rfl ?_
     refine AG.pass 17 rfl (by kernel_rfl) (by kernel_rfl) rfl rfl rfl ?_
     refine AG.pass 18 rfl (by kernel_rfl) (by kernel_rfl) rfl rfl rfl ?_
     refine AG.pass 19 rfl (by kernel_rfl) (by kernel_rfl) rfl rfl rfl ?_
     refine AG.pass 20 rfl (by kernel_rfl) (by kernel_rfl) rfl rfl rfl ?_
     refine AG.pass 21 rfl (by kernel_rfl) (by kernel_rfl) rfl rfl rfl ?_
     refine AG.pass 22 rfl (by kernel_rfl) (by kernel_rfl) rfl rfl rfl ?_
     refine AG.takeW 23 rfl (by kernel_rfl) (by kernel_rfl) rfl rfl rfl (fun _ => Ev.pickT rfl rfl rfl) ?_
     refine AG.done (by kernel_rfl) ?_
     refine QW.sub (S' := [(0, _), (1, _), (7, _), (49, _)]) ⟨rfl, rfl, rfl, rfl, trivial⟩ ?_
     refine QW.then_ ?_
     refine CW.condT rfl ?_
     refine CW.seq (CW.region ?_)
     refine RG.vl rfl rfl rfl (Ev.assign rfl rfl) ?_
     refine RG.vl rfl rfl rfl (Ev.assign rfl rfl) ?_
     refine RG.vl rfl rfl rfl (Ev.assign rfl rfl) ?_
     refine RG.done (QW.then_ (CW.ret (QW.blockR (QW.thenRet (QW.thenRet (QW.blockR ?_))))))
     refine QW.thenRet ?_
     refine QW.ret3 rfl rfl rfl rfl ?_
     have hB := (Ex.tr hB0 hxwl4)
     exact ⟨_, _, [], [], 2, rfl, Own.nil_ _ _ _ _ _, Own.nil_ _ _ _ _ _, .inl ⟨.inr (fun hk => by obtain ⟨k1, k2, k3⟩ := okE_at hk hx; first | omega | exact k3 (of_decide_eq_true (by assumption))), rfl, rfl, rfl⟩, hB⟩
    ·refine AG.takeW 15 rfl (by kernel_rfl) (by kernel_rfl) rfl rfl rfl (fun _ => Ev.move rfl rfl) ?_
     refine AG.takeW 16 rfl (by kernel_rfl) (by kernel_rfl) rfl rfl rfl (fun _ => Ev.move rfl rfl) ?_
     refine AG.sliceL (L := 0) (H := i) _ 17 rfl (by kernel_rfl) (by kernel_rfl) rfl rfl rfl rfl rfl Tryz.underlying29 sz_3 (hm) (.inl ⟨rfl, rfl⟩) (.inr ⟨_, _, _, rfl, rfl, by omega⟩) (by omega) (by omega) (fun v12 hrv12 => ?_)
     rw [List.drop_zero] at hrv12
     have htl : (ei.take i).length = i := by rw [List.length_take]; omega
     refine AG.takeW 18 rfl (by kernel_rfl) (by kernel_rfl) rfl rfl rfl (fun _ => Ev.move rfl rfl) ?_
     refine AG.takeW 19 rfl (by kernel_rfl) (by kernel_rfl) rfl rfl rfl (fun _ => Ev.move rfl rfl) ?_
     refine AG.idxL _ 20 rfl (by kernel_rfl) (by kernel_rfl) rfl rfl rfl rfl rfl rfl Tryz.underlying29 sz_3 ((hm.ext hxwl4)) (hx) (fun p13 hp13b hp13 => ?_)
     refine AG.take 21 rfl (by kernel_rfl) (by kernel_rfl) rfl rfl rfl (fun wq hq => Ev.ld0 rfl rfl Tryz.underlying3 rfl (hp13.ext hq hp13b) (rfl)) ?_
     refine AG.only 22 rfl (by kernel_rfl) ?_
     refine RG.call rfl rfl rfl rfl rfl rfl rfl en_77 (rhas_ret _ _ _ _ ((hrv12.ext hxwl4)) (by omega)) ?_
     rintro _ w15 ⟨rfl, hx15⟩
     replace hxwl4 := Ex.tr hxwl4 hx15
     replace hE7 := Ex.tr hE7 hx15
     have hE16 := hx15
     refine RG.done ?_
     refine QW.an (fun _ => hE16) ?_
     refine AG.takeW 23 rfl (by kernel_rfl) (by kernel_rfl) rfl rfl rfl (fun _ => Ev.pickF rfl rfl rfl) ?_
     refine AG.done (by kernel_rfl) ?_
     refine QW.sub (S' := [(0, _), (1, _), (7, _), (49, _)]) ⟨rfl, rfl, rfl, rfl, trivial⟩ ?_
     refine QW.then_ ?_
     refine CW.cond rfl (fun hc17 => ?_) (fun hc17 => ?_)
     ·refine CW.seq (CW.region ?_)
      refine RG.vl rfl rfl rfl (Ev.assign rfl rfl) ?_
      refine RG.vl rfl rfl rfl (Ev.assign rfl rfl) ?_
      refine RG.vl rfl rfl rfl (Ev.assign rfl rfl) ?_
      refine RG.done (QW.then_ (CW.ret (QW.blockR (QW.thenRet (QW.thenRet (QW.blockR ?_))))))
      refine QW.thenRet ?_
      refine QW.ret3 rfl rfl rfl rfl ?_
      have hB := (Ex.tr hB0 hxwl4)
      exact ⟨_, _, [], [], 2, rfl, Own.nil_ _ _ _ _ _, Own.nil_ _ _ _ _ _, .inl ⟨.inr (fun hk => by obtain ⟨k1, k2, k3⟩ := okE_at hk hx; first | omega | exact k3 (of_decide_eq_true (by assumption))), rfl, rfl, rfl⟩, hB⟩
     ·refine CW.skip (QW.blockN (QW.then_ (CW.region ?_)))
      refine RG.vl rfl rfl rfl (Ev.move rfl rfl) ?_
      refine RG.vl rfl rfl rfl (Ev.addI rfl rfl rfl (by omega)) ?_
      refine RG.vl rfl rfl rfl (Ev.assign rfl rfl) ?_
      refine RG.done ?_
      refine QW.round1 (i + 1) ⟨rfl, trivial⟩ ⟨rfl, rfl, trivial⟩ ⟨⟨by omega, by rw [take_more ei i x hx]; exact okE_snoc hoki (by omega) (by omega) (of_decide_eq_false (by assumption))⟩, (Ex.tr hB0 hxwl4)⟩ (by omega)
  ·refine CW.exit (QW.thenExit (QW.thenExit (QW.blockHit (QW.then_ (CW.seq (CW.seq ?_))))))
   have hok : okE l.length ei := by rw [← List.take_of_length_le (l := ei) (i := i) (by omega)]; exact hoki
   obtain ⟨n1, n2, n3, n4⟩ := okE_nat hok
   obtain ⟨er, her⟩ : ∃ er, er = erN ei := ⟨_, rfl⟩
   rw [← her] at n1 n2 n3 n4
   refine CW.region ?_
   refine RG.vl rfl rfl rfl (Ev.move rfl rfl) ?_
   refine RG.vl rfl rfl rfl (Ev.lenL rfl rfl rfl Tryz.underlying29 ((hm.ext hxwl4))) ?_
   refine RG.vl rfl rfl rfl (Ev.gtr rfl rfl rfl) ?_
   refine RG.done (QW.then_ ?_)
   refine CW.condP rfl (fun hc18 => ?_) (fun hc18 => ?_)
   ·refine CW.seq (CW.region ?_)
    refine RG.vl rfl rfl rfl (Ev.assign rfl rfl) ?_
    refine RG.vl rfl rfl rfl (Ev.assign rfl rfl) ?_
    refine RG.vl rfl rfl rfl (Ev.assign rfl rfl) ?_
    refine RG.done (QW.then_ (CW.ret (QW.thenRet ?_)))
    refine QW.ret3 rfl rfl rfl rfl ?_
    have hB := (Ex.tr hB0 hxwl4)
    exact ⟨_, _, [], [], 190, rfl, Own.nil_ _ _ _ _ _, Own.nil_ _ _ _ _ _, .inr ⟨hyes, hok, .inl ⟨rfl, rfl, rfl, .inl (by omega)⟩⟩, hB⟩
   ·refine CW.skip (QW.then_ (CW.seq (CW.seq ?_)))
    have hr4 : er.length ≤ 4 := by omega
    have hz := rdl_z hm (fun a ha => (hok.1 a ha).1)
    rw [← her] at hz
    refine CW.region ?_
    refine RG.vl rfl rfl rfl (Ev.move rfl rfl) ?_
    refine RG.vl rfl rfl rfl (Ev.move rfl rfl) ?_
    refine RG.call rfl rfl rfl rfl rfl rfl rfl en_78 (filled_ret _ _ l er _ ((hl.ext hxwl4)) ((hz.ext hxwl4)) hyes n2 hr4 n3) ?_
    have hpre19 := (Ex.tr hB0 hxwl4)
    rintro _ w19 ⟨r19, b19, o19, rfl, hor19, hyes19, hno19, hx19⟩
    replace hxwl4 := Ex.tr hxwl4 hx19
    have hE20 := hx19
    refine RG.vl rfl rfl rfl (Ev.move rfl rfl) ?_
    refine RG.vl rfl rfl rfl (Ev.extract rfl rfl rfl) ?_
    refine RG.vl rfl rfl rfl (Ev.extract rfl rfl rfl) ?_
    refine RG.vl rfl rfl rfl (Ev.assign rfl rfl) ?_
    refine RG.vl rfl rfl rfl (Ev.assign rfl rfl) ?_
    refine RG.done ?_
    refine QW.sub (S' := [(0, _), (1, _), (8, _), (9, _)]) ⟨rfl, rfl, rfl, rfl, trivial⟩ ?_
    refine QW.then_ (CW.seq (CW.region ?_))
    refine RG.vl rfl rfl rfl (Ev.move rfl rfl) ?_
    refine RG.done (QW.then_ ?_)
    refine CW.cond rfl (fun hc21 => ?_) (fun hc21 => ?_)
    ·refine CW.seq (CW.region ?_)
     refine RG.vl rfl rfl rfl (Ev.move rfl rfl) ?_
     refine RG.vl rfl rfl rfl (Ev.assign rfl rfl) ?_
     refine RG.vl rfl rfl rfl (Ev.assign rfl rfl) ?_
     refine RG.vl rfl rfl rfl (Ev.assign rfl rfl) ?_
     refine RG.done (QW.then_ (CW.ret (QW.thenRet ?_)))
     refine QW.ret3 rfl rfl rfl rfl ?_
     have hB := (Ex.tr hB0 hxwl4)
     exact ⟨_, _, o19, [], 0, rfl, hor19.low (by have := hpre19.size; omega), Own.nil_ _ _ _ _ _, .inr ⟨hyes, hok, .inr ⟨rfl, by rw [← her]; exact near_er hr4 (hyes19 (by assumption))⟩⟩, hB⟩
    ·refine CW.skip (QW.then_ (CW.seq (CW.seq ?_)))
     have hno0 : NoR l er := hno19 (by assumption)
     refine CW.region ?_
     refine RG.vl rfl rfl rfl (Ev.assign rfl rfl) ?_
     refine RG.done (QW.then_ (CW.block ?_))
     refine CW.loop1 [(0, _), (1, _)] ⟨rfl, rfl, trivial⟩ (fun (p1 : Nat) => [(10, .int .i64 (p1 : Int))]) (fun p1 w' => (p1 ≤ l.length ∧ (er.length ≤ 2 → ∀ a, a < p1 → a ∉ er → NoR l (er ++ [a]))) ∧ Ex w w') (fun p1 => l.length - p1) (0) ⟨rfl, trivial⟩ ⟨⟨Nat.zero_le _, fun _ a h => absurd h (by omega)⟩, (Ex.tr hB0 hxwl4)⟩ ?_
     rintro p1 wl22 ⟨⟨hp1, hone⟩, hxwl22⟩
     refine CW.sub (S' := [(10, _), (0, _), (1, _)]) ⟨rfl, rfl, rfl, trivial⟩ ?_
     refine CW.seq (CW.seq (CW.region ?_))
     refine RG.vl rfl rfl rfl (Ev.move rfl rfl) ?_
     refine RG.vl rfl rfl rfl (Ev.move rfl rfl) ?_
     refine RG.vl rfl rfl rfl (Ev.lenL rfl rfl rfl Tryz.underlying58 ((hl.ext hxwl22))) ?_
     refine RG.vl rfl rfl rfl (Ev.lss rfl rfl rfl) ?_
     refine RG.vl rfl rfl rfl (Ev.move rfl rfl) ?_
     refine RG.split (d := 65) rfl (fun hg23 => ?_) (fun hg23 => ?_)
     ·refine RG.vl rfl rfl rfl (Ev.move rfl rfl) ?_
      refine RG.vl rfl rfl rfl (Ev.lenL rfl rfl rfl Tryz.underlying29 ((hz.ext hxwl22))) ?_
      refine RG.vl rfl rfl rfl (Ev.leq rfl rfl rfl) ?_
      refine RG.vl rfl rfl rfl (Ev.pickT rfl rfl rfl) ?_
      refine RG.done (QW.then_ ?_)
      refine CW.condP rfl (fun hc24 => ?_) (fun hc24 => ?_)
      ·refine CW.skip (QW.then_ (CW.seq (CW.block (CW.seq (CW.seq (CW.region ?_))))))
       refine RG.vl rfl rfl rfl (Ev.move rfl rfl) ?_
       refine RG.vl rfl rfl rfl (Ev.move rfl rfl) ?_
       refine RG.call rfl rfl rfl rfl rfl rfl rfl en_77 (rhas_ret _ (er.map fun n : Nat => (n : Int)) p1 _ (rdl_i ((hz.ext hxwl22))) (by rw [List.length_map]; omega)) ?_
       rintro _ w25 ⟨rfl, hx25⟩
       replace hxwl22 := Ex.tr hxwl22 hx25
       have hE26 := hx25
       refine RG.done (QW.then_ ?_)
       refine CW.cond rfl (fun hc27 => ?_) (fun hc27 => ?_)
       ·refine CW.exit (QW.thenExit (QW.blockHit (QW.then_ (CW.region ?_))))
        refine RG.vl rfl rfl rfl (Ev.move rfl rfl) ?_
        refine RG.vl rfl rfl rfl (Ev.addI rfl rfl rfl (by omega)) ?_
        refine RG.vl rfl rfl rfl (Ev.assign rfl rfl) ?_
        refine RG.done ?_
        refine QW.sub (S' := [(0, _), (1, _), (10, _)]) ⟨rfl, rfl, rfl, trivial⟩ ?_
        refine QW.round1 (p1 + 1) ⟨rfl, trivial⟩ ⟨rfl, rfl, trivial⟩ ⟨⟨by omega, fun h2 a ha hn => by rcases Nat.lt_or_ge a p1 with h | h; exact hone h2 a h hn; obtain rfl : a = p1 := (by omega); exact absurd (mem_nat.1 (of_decide_eq_true (by assumption))) hn⟩, (Ex.tr hB0 hxwl22)⟩ (by omega)
       ·refine CW.skip (QW.then_ (CW.seq ?_))
        have hnin : p1 ∉ er := fun h => by have h2 := mem_nat.2 h; rw [decide_eq_true h2] at *; contradiction
        have hnd2 : (er ++ [p1]).Nodup := by rw [List.nodup_append]; exact ⟨n2, by simp, fun x hx y hy e => by rw [List.mem_singleton.1 hy] at e; exact hnin (e ▸ hx)⟩
        have hl2 : (er ++ [p1]).length = er.length + 1 := by simp
        have hp2 : ∀ a ∈ er ++ [p1], a < l.length := fun a ha => by rcases List.mem_append.1 ha with h | h; exact n3 a h; rw [List.mem_singleton.1 h]; omega
        refine CW.region ?_
        refine RG.vl rfl rfl rfl (Ev.move rfl rfl) ?_
        refine RG.build0O (enc := encZ) rfl rfl rfl rfl rfl Tryz.underlying29 sz_3 (fun v28 wk29 hxwk29 hown30 hnew31 => ?_)
        replace hown30 := Own.low (B' := w.heap.size) hown30 (by have := (Ex.tr hB0 hxwl22).size; omega)
        replace hxwl22 := Ex.tr hxwl22 hxwk29
        replace hE26 := Ex.tr hE26 hxwk29
        have hE32 := hxwk29
        refine RG.vl rfl rfl rfl (Ev.move rfl rfl) ?_
        refine RG.appO rfl rfl rfl rfl rfl rfl rfl Tryz.underlying29 inf_3 rfl rfl encZ_len (fun _ => rfl) hown30 ((hz.ext hxwl22)) (by show 0 + _ ≤ maxLen; simp only [maxLen]; omega) (by show (0 + _) * _ ≤ _; omega) (hxwl22.size) (fun v33 wa34 hown35 hgr36 hat37 => ?_)
        replace hxwl22 := own_block hown30 hxwl22 hgr36 (Nat.le_refl _) hxwl22.size
        rw [List.nil_append] at hown35
        refine RG.vl rfl rfl rfl (Ev.move rfl rfl) ?_
        refine RG.litO (os := [.tmp 80]) (enc := encZ) ([p1]) rfl rfl rfl rfl rfl rfl rfl Tryz.underlying29 inf_3 rfl rfl rfl rfl rfl encZ_len rfl rfl (fun v38 wk39 hxwk39 hown40 hnew41 => ?_)
        replace hxwl22 := Ex.tr hxwl22 hxwk39
        have hE42 := hxwk39
        refine RG.appO rfl rfl rfl rfl rfl rfl rfl Tryz.underlying29 inf_3 rfl rfl encZ_len (fun _ => rfl) (Own.ext hown35 hE42) ((hown40.rdl encZ_len)) (by show _ + 1 ≤ maxLen; simp only [maxLen]; omega) (by show (_ + 1) * _ ≤ _; omega) (hxwl22.size) (fun v43 wa44 hown45 hgr46 hat47 => ?_)
        replace hxwl22 := own_block (Own.ext hown35 hE42) hxwl22 hgr46 (Nat.le_refl _) hxwl22.size
        refine RG.call rfl rfl rfl rfl rfl rfl rfl en_78 (filled_ret _ _ l (er ++ [p1]) _ ((hl.ext hxwl22)) ((hown45.rdl encZ_len)) hyes hnd2 (by omega) hp2) ?_
        have hpre48 := (Ex.tr hB0 hxwl22)
        rintro _ w48 ⟨r48, b48, o48, rfl, hor48, hyes48, hno48, hx48⟩
        replace hxwl22 := Ex.tr hxwl22 hx48
        have hE49 := hx48
        refine RG.vl rfl rfl rfl (Ev.move rfl rfl) ?_
        refine RG.vl rfl rfl rfl (Ev.extract rfl rfl rfl) ?_
        refine RG.vl rfl rfl rfl (Ev.extract rfl rfl rfl) ?_
        refine RG.vl rfl rfl rfl (Ev.assign rfl rfl) ?_
        refine RG.vl rfl rfl rfl (Ev.assign rfl rfl) ?_
        refine RG.done ?_
        refine QW.sub (S' := [(0, _), (1, _), (10, _), (11, _), (12, _)]) ⟨rfl, rfl, rfl, rfl, rfl, trivial⟩ ?_
        refine QW.then_ (CW.seq (CW.region ?_))
        refine RG.vl rfl rfl rfl (Ev.move rfl rfl) ?_
        refine RG.done (QW.then_ ?_)
        refine CW.cond rfl (fun hc50 => ?_) (fun hc50 => ?_)
        ·refine CW.seq ?_
         have hE19 : Ex w w48 := (Ex.tr hB0 hxwl22)
         refine CW.region ?_
         refine RG.vl rfl rfl rfl (Ev.move rfl rfl) ?_
         refine RG.vl rfl rfl rfl (Ev.move rfl rfl) ?_
         refine RG.litO (os := [.tmp 88]) (enc := encZ) ([p1]) rfl rfl rfl rfl rfl rfl rfl Tryz.underlying29 inf_3 rfl rfl rfl rfl rfl encZ_len rfl rfl (fun v51 wk52 hxwk52 hown53 hnew54 => ?_)
         replace hxwl22 := Ex.tr hxwl22 hxwk52
         replace hE49 := Ex.tr hE49 hxwk52
         have hE55 := hxwk52
         refine RG.vl rfl rfl rfl (Ev.assign rfl rfl) ?_
         refine RG.vl rfl rfl rfl (Ev.assign rfl rfl) ?_
         refine RG.vl rfl rfl rfl (Ev.assign rfl rfl) ?_
         refine RG.done (QW.then_ (CW.ret (QW.blockR (QW.thenRet (QW.thenRet (QW.blockR ?_))))))
         refine QW.thenRet ?_
         refine QW.ret3 rfl rfl rfl rfl ?_
         have hB := (Ex.tr hB0 hxwl22)
         exact ⟨_, _, o48, [p1], 0, rfl, (Own.ext hor48 hE55).low (by have := hpre48.size; omega), Own.low (B' := w.heap.size) hown53 (by have := hE19.size; omega), .inr ⟨hyes, hok, .inr ⟨rfl, by rw [← her]; exact near_one (by omega) (by omega) hnin hno0 (hyes48 (by assumption))⟩⟩, hB⟩
        ·refine CW.skip (QW.blockN (QW.then_ (CW.region ?_)))
         refine RG.vl rfl rfl rfl (Ev.move rfl rfl) ?_
         refine RG.vl rfl rfl rfl (Ev.addI rfl rfl rfl (by omega)) ?_
         refine RG.vl rfl rfl rfl (Ev.assign rfl rfl) ?_
         refine RG.done ?_
         refine QW.round1 (p1 + 1) ⟨rfl, trivial⟩ ⟨rfl, rfl, trivial⟩ ⟨⟨by omega, fun h2 a ha hn => by rcases Nat.lt_or_ge a p1 with h | h; exact hone h2 a h hn; obtain rfl : a = p1 := (by omega); exact hno48 (by assumption)⟩, (Ex.tr hB0 hxwl22)⟩ (by omega)
      ·refine CW.exit (QW.thenExit (QW.thenExit (QW.blockHit (QW.then_ (CW.seq (CW.seq ?_))))))
       refine CW.region ?_
       refine RG.vl rfl rfl rfl (Ev.assign rfl rfl) ?_
       refine RG.done (QW.then_ (CW.block ?_))
       refine CW.loop1 [(0, _), (1, _)] ⟨rfl, rfl, trivial⟩ (fun (p : Nat) => [(13, .int .i64 (p : Int))]) (fun p w' => (p ≤ l.length ∧ (er = [] → ∀ a b, a < p → a < b → b < l.length → NoR l [a, b])) ∧ Ex w w') (fun p => l.length - p) (0) ⟨rfl, trivial⟩ ⟨⟨Nat.zero_le _, fun _ a b h => absurd h (by omega)⟩, (Ex.tr hB0 hxwl22)⟩ ?_
       rintro p wl56 ⟨⟨hp, htwo⟩, hxwl56⟩
       refine CW.sub (S' := [(13, _), (0, _), (1, _)]) ⟨rfl, rfl, rfl, trivial⟩ ?_
       refine CW.seq (CW.seq (CW.region ?_))
       refine RG.vl rfl rfl rfl (Ev.move rfl rfl) ?_
       refine RG.vl rfl rfl rfl (Ev.move rfl rfl) ?_
       refine RG.vl rfl rfl rfl (Ev.lenL rfl rfl rfl Tryz.underlying58 ((hl.ext hxwl56))) ?_
       refine RG.vl rfl rfl rfl (Ev.lss rfl rfl rfl) ?_
       refine RG.vl rfl rfl rfl (Ev.move rfl rfl) ?_
       refine RG.split (d := 94) rfl (fun hg57 => ?_) (fun hg57 => ?_)
       ·refine RG.vl rfl rfl rfl (Ev.move rfl rfl) ?_
        refine RG.vl rfl rfl rfl (Ev.lenL rfl rfl rfl Tryz.underlying29 ((hz.ext hxwl56))) ?_
        refine RG.vl rfl rfl rfl (Ev.eqI rfl rfl rfl) ?_
        refine RG.vl rfl rfl rfl (Ev.pickT rfl rfl rfl) ?_
        refine RG.done (QW.then_ ?_)
        refine CW.condP rfl (fun hc58 => ?_) (fun hc58 => ?_)
        ·refine CW.skip (QW.then_ (CW.seq (CW.block (CW.seq (CW.region ?_)))))
         refine RG.vl rfl rfl rfl (Ev.move rfl rfl) ?_
         refine RG.vl rfl rfl rfl (Ev.addI rfl rfl rfl (by omega)) ?_
         refine RG.vl rfl rfl rfl (Ev.assign rfl rfl) ?_
         refine RG.done (QW.then_ (CW.block ?_))
         refine CW.loop1 [(0, _), (1, _), (13, _)] ⟨rfl, rfl, rfl, trivial⟩ (fun (q : Nat) => [(14, .int .i64 (q : Int))]) (fun q w' => (p < q ∧ q ≤ l.length ∧ ∀ b, p < b → b < q → NoR l [p, b]) ∧ Ex w w') (fun q => l.length - q) (p + 1) ⟨rfl, trivial⟩ ⟨⟨by omega, by omega, fun b h1 h2 => absurd h1 (by omega)⟩, (Ex.tr hB0 hxwl56)⟩ ?_
         rintro q wl59 ⟨⟨hq1, hq2, hthr⟩, hxwl59⟩
         refine CW.sub (S' := [(14, _), (0, _), (1, _), (13, _)]) ⟨rfl, rfl, rfl, rfl, trivial⟩ ?_
         refine CW.seq (CW.seq (CW.region ?_))
         refine RG.vl rfl rfl rfl (Ev.move rfl rfl) ?_
         refine RG.vl rfl rfl rfl (Ev.move rfl rfl) ?_
         refine RG.vl rfl rfl rfl (Ev.lenL rfl rfl rfl Tryz.underlying58 ((hl.ext hxwl59))) ?_
         refine RG.vl rfl rfl rfl (Ev.lss rfl rfl rfl) ?_
         refine RG.done (QW.then_ ?_)
         refine CW.condP rfl (fun hc60 => ?_) (fun hc60 => ?_)
         ·refine CW.skip (QW.then_ (CW.seq (CW.block (CW.seq ?_))))
          have he0 : er = [] := List.eq_nil_of_length_eq_zero (by omega)
          have hpq : [p, q].Nodup := by simp; omega
          have hpl : ∀ a ∈ [p, q], a < l.length := fun a ha => by simp at ha; omega
          refine CW.region ?_
          refine RG.vl rfl rfl rfl (Ev.move rfl rfl) ?_
          refine RG.vl rfl rfl rfl (Ev.move rfl rfl) ?_
          refine RG.vl rfl rfl rfl (Ev.move rfl rfl) ?_
          refine RG.litO (os := [.tmp 111, .tmp 112]) (enc := encZ) ([p, q]) rfl rfl rfl rfl rfl rfl rfl Tryz.underlying29 inf_3 rfl rfl rfl rfl rfl encZ_len rfl rfl (fun v61 wk62 hxwk62 hown63 hnew64 => ?_)
          replace hxwl59 := Ex.tr hxwl59 hxwk62
          have hE65 := hxwk62
          refine RG.call rfl rfl rfl rfl rfl rfl rfl en_78 (filled_ret _ _ l [p, q] _ ((hl.ext hxwl59)) ((hown63.rdl encZ_len)) hyes hpq (by show 2 ≤ 4; omega) hpl) ?_
          have hpre66 := (Ex.tr hB0 hxwl59)
          rintro _ w66 ⟨r66, b66, o66, rfl, hor66, hyes66, hno66, hx66⟩
          replace hxwl59 := Ex.tr hxwl59 hx66
          replace hE65 := Ex.tr hE65 hx66
          have hE67 := hx66
          refine RG.vl rfl rfl rfl (Ev.move rfl rfl) ?_
          refine RG.vl rfl rfl rfl (Ev.extract rfl rfl rfl) ?_
          refine RG.vl rfl rfl rfl (Ev.extract rfl rfl rfl) ?_
          refine RG.vl rfl rfl rfl (Ev.assign rfl rfl) ?_
          refine RG.vl rfl rfl rfl (Ev.assign rfl rfl) ?_
          refine RG.done ?_
          refine QW.sub (S' := [(0, _), (1, _), (13, _), (14, _), (15, _), (16, _)]) ⟨rfl, rfl, rfl, rfl, rfl, rfl, trivial⟩ ?_
          refine QW.then_ (CW.seq (CW.region ?_))
          refine RG.vl rfl rfl rfl (Ev.move rfl rfl) ?_
          refine RG.done (QW.then_ ?_)
          refine CW.cond rfl (fun hc68 => ?_) (fun hc68 => ?_)
          ·refine CW.seq ?_
           have hE28 : Ex w w66 := (Ex.tr hB0 hxwl59)
           refine CW.region ?_
           refine RG.vl rfl rfl rfl (Ev.move rfl rfl) ?_
           refine RG.vl rfl rfl rfl (Ev.move rfl rfl) ?_
           refine RG.vl rfl rfl rfl (Ev.move rfl rfl) ?_
           refine RG.litO (os := [.tmp 119, .tmp 120]) (enc := encZ) ([p, q]) rfl rfl rfl rfl rfl rfl rfl Tryz.underlying29 inf_3 rfl rfl rfl rfl rfl encZ_len rfl rfl (fun v69 wk70 hxwk70 hown71 hnew72 => ?_)
           replace hxwl59 := Ex.tr hxwl59 hxwk70
           replace hE65 := Ex.tr hE65 hxwk70
           replace hE67 := Ex.tr hE67 hxwk70
           have hE73 := hxwk70
           refine RG.vl rfl rfl rfl (Ev.assign rfl rfl) ?_
           refine RG.vl rfl rfl rfl (Ev.assign rfl rfl) ?_
           refine RG.vl rfl rfl rfl (Ev.assign rfl rfl) ?_
           refine RG.done (QW.then_ (CW.ret (QW.blockR (QW.thenRet (QW.thenRet (QW.blockR ?_))))))
           refine QW.blockR (QW.thenRet (QW.thenRet (QW.blockR (QW.thenRet ?_))))
           refine QW.ret3 rfl rfl rfl rfl ?_
           have hB := (Ex.tr hB0 hxwl59)
           exact ⟨_, _, o66, [p, q], 0, rfl, (Own.ext hor66 hE73).low (by have := hpre66.size; omega), Own.low (B' := w.heap.size) hown71 (by have := hE28.size; omega), .inr ⟨hyes, hok, .inr ⟨rfl, by rw [← her, he0]; exact near_two (by omega) (by omega) (fun q hq => by have := hone (by omega) q (by omega) (by rw [he0]; simp); rwa [he0] at this) (hyes66 (by assumption))⟩⟩, hB⟩
          ·refine CW.skip (QW.blockN (QW.then_ (CW.region ?_)))
           refine RG.vl rfl rfl rfl (Ev.move rfl rfl) ?_
           refine RG.vl rfl rfl rfl (Ev.addI rfl rfl rfl (by omega)) ?_
           refine RG.vl rfl rfl rfl (Ev.assign rfl rfl) ?_
           refine RG.done ?_
           refine QW.round1 (q + 1) ⟨rfl, trivial⟩ ⟨rfl, rfl, rfl, trivial⟩ ⟨⟨by omega, by omega, fun b h1 h2 => by rcases Nat.lt_or_ge b q with h | h; exact hthr b h1 h; obtain rfl : b = q := (by omega); exact hno66 (by assumption)⟩, (Ex.tr hB0 hxwl59)⟩ (by omega)
         ·refine CW.exit (QW.thenExit (QW.thenExit (QW.blockHit (QW.blockN (QW.then_ (CW.region ?_))))))
          refine RG.vl rfl rfl rfl (Ev.move rfl rfl) ?_
          refine RG.vl rfl rfl rfl (Ev.addI rfl rfl rfl (by omega)) ?_
          refine RG.vl rfl rfl rfl (Ev.assign rfl rfl) ?_
          refine RG.done ?_
          refine QW.round1 (p + 1) ⟨rfl, trivial⟩ ⟨rfl, rfl, trivial⟩ ⟨⟨by omega, fun he a b ha hab hb => by rcases Nat.lt_or_ge a p with h | h; exact htwo he a b h hab hb; obtain rfl : a = p := (by omega); exact hthr b hab (by omega)⟩, (Ex.tr hB0 hxwl59)⟩ (by omega)
        ·refine CW.exit (QW.thenExit (QW.thenExit (QW.blockHit (QW.then_ (CW.seq (CW.region ?_))))))
         refine RG.vl rfl rfl rfl (Ev.assign rfl rfl) ?_
         refine RG.vl rfl rfl rfl (Ev.assign rfl rfl) ?_
         refine RG.vl rfl rfl rfl (Ev.assign rfl rfl) ?_
         refine RG.done (QW.then_ (CW.ret ?_))
         refine QW.ret3 rfl rfl rfl rfl ?_
         have hB := (Ex.tr hB0 hxwl56)
         exact ⟨_, _, [], [], 190, rfl, Own.nil_ _ _ _ _ _, Own.nil_ _ _ _ _ _, .inr ⟨hyes, hok, .inl ⟨rfl, rfl, rfl, .inr (by rw [← her]; exact far_end hno0 (fun h2 a ha hn => hone h2 a (by omega) hn) (fun he a b hab hb => by have he1 : er.length = 0 := (by rw [he]; rfl); exact htwo he a b (by omega) hab hb))⟩⟩, hB⟩
       ·refine RG.pass rfl rfl rfl ?_
        refine RG.pass rfl rfl rfl ?_
        refine RG.pass rfl rfl rfl ?_
        refine RG.vl rfl rfl rfl (Ev.pickF rfl rfl rfl) ?_
        refine RG.done (QW.then_ ?_)
        refine CW.condF rfl ?_
        refine CW.exit (QW.thenExit (QW.thenExit (QW.blockHit (QW.then_ (CW.seq (CW.region ?_))))))
        refine RG.vl rfl rfl rfl (Ev.assign rfl rfl) ?_
        refine RG.vl rfl rfl rfl (Ev.assign rfl rfl) ?_
        refine RG.vl rfl rfl rfl (Ev.assign rfl rfl) ?_
        refine RG.done (QW.then_ (CW.ret ?_))
        refine QW.ret3 rfl rfl rfl rfl ?_
        have hB := (Ex.tr hB0 hxwl56)
        exact ⟨_, _, [], [], 190, rfl, Own.nil_ _ _ _ _ _, Own.nil_ _ _ _ _ _, .inr ⟨hyes, hok, .inl ⟨rfl, rfl, rfl, .inr (by rw [← her]; exact far_end hno0 (fun h2 a ha hn => hone h2 a (by omega) hn) (fun he a b hab hb => by have he1 : er.length = 0 := (by rw [he]; rfl); exact htwo he a b (by omega) hab hb))⟩⟩, hB⟩
     ·refine RG.pass rfl rfl rfl ?_
      refine RG.pass rfl rfl rfl ?_
      refine RG.pass rfl rfl rfl ?_
      refine RG.vl rfl rfl rfl (Ev.pickF rfl rfl rfl) ?_
      refine RG.done (QW.then_ ?_)
      refine CW.condF rfl ?_
      refine CW.exit (QW.thenExit (QW.thenExit (QW.blockHit (QW.then_ (CW.seq (CW.seq ?_))))))
      refine CW.region ?_
      refine RG.vl rfl rfl rfl (Ev.assign rfl rfl) ?_
      refine RG.done (QW.then_ (CW.block ?_))
      refine CW.loop1 [(0, _), (1, _)] ⟨rfl, rfl, trivial⟩ (fun (p : Nat) => [(13, .int .i64 (p : Int))]) (fun p w' => (p ≤ l.length ∧ (er = [] → ∀ a b, a < p → a < b → b < l.length → NoR l [a, b])) ∧ Ex w w') (fun p => l.length - p) (0) ⟨rfl, trivial⟩ ⟨⟨Nat.zero_le _, fun _ a b h => absurd h (by omega)⟩, (Ex.tr hB0 hxwl22)⟩ ?_
      rintro p wl74 ⟨⟨hp, htwo⟩, hxwl74⟩
      refine CW.sub (S' := [(13, _), (0, _), (1, _)]) ⟨rfl, rfl, rfl, trivial⟩ ?_
      refine CW.seq (CW.seq (CW.region ?_))
      refine RG.vl rfl rfl rfl (Ev.move rfl rfl) ?_
      refine RG.vl rfl rfl rfl (Ev.move rfl rfl) ?_
      refine RG.vl rfl rfl rfl (Ev.lenL rfl rfl rfl Tryz.underlying58 ((hl.ext hxwl74))) ?_
      refine RG.vl rfl rfl rfl (Ev.lss rfl rfl rfl) ?_
      refine RG.vl rfl rfl rfl (Ev.move rfl rfl) ?_
      refine RG.split (d := 94) rfl (fun hg75 => ?_) (fun hg75 => ?_)
      ·refine RG.vl rfl rfl rfl (Ev.move rfl rfl) ?_
       refine RG.vl rfl rfl rfl (Ev.lenL rfl rfl rfl Tryz.underlying29 ((hz.ext hxwl74))) ?_
       refine RG.vl rfl rfl rfl (Ev.eqI rfl rfl rfl) ?_
       refine RG.vl rfl rfl rfl (Ev.pickT rfl rfl rfl) ?_
       refine RG.done (QW.then_ ?_)
       refine CW.condP rfl (fun hc76 => ?_) (fun hc76 => ?_)
       ·refine CW.skip (QW.then_ (CW.seq (CW.block (CW.seq (CW.region ?_)))))
        refine RG.vl rfl rfl rfl (Ev.move rfl rfl) ?_
        refine RG.vl rfl rfl rfl (Ev.addI rfl rfl rfl (by omega)) ?_
        refine RG.vl rfl rfl rfl (Ev.assign rfl rfl) ?_
        refine RG.done (QW.then_ (CW.block ?_))
        refine CW.loop1 [(0, _), (1, _), (13, _)] ⟨rfl, rfl, rfl, trivial⟩ (fun (q : Nat) => [(14, .int .i64 (q : Int))]) (fun q w' => (p < q ∧ q ≤ l.length ∧ ∀ b, p < b → b < q → NoR l [p, b]) ∧ Ex w w') (fun q => l.length - q) (p + 1) ⟨rfl, trivial⟩ ⟨⟨by omega, by omega, fun b h1 h2 => absurd h1 (by omega)⟩, (Ex.tr hB0 hxwl74)⟩ ?_
        rintro q wl77 ⟨⟨hq1, hq2, hthr⟩, hxwl77⟩
        refine CW.sub (S' := [(14, _), (0, _), (1, _), (13, _)]) ⟨rfl, rfl, rfl, rfl, trivial⟩ ?_
        refine CW.seq (CW.seq (CW.region ?_))
        refine RG.vl rfl rfl rfl (Ev.move rfl rfl) ?_
        refine RG.vl rfl rfl rfl (Ev.move rfl rfl) ?_
        refine RG.vl rfl rfl rfl (Ev.lenL rfl rfl rfl Tryz.underlying58 ((hl.ext hxwl77))) ?_
        refine RG.vl rfl rfl rfl (Ev.lss rfl rfl rfl) ?_
        refine RG.done (QW.then_ ?_)
        refine CW.condP rfl (fun hc78 => ?_) (fun hc78 => ?_)
        ·refine CW.skip (QW.then_ (CW.seq (CW.block (CW.seq ?_))))
         have he0 : er = [] := List.eq_nil_of_length_eq_zero (by omega)
         have hpq : [p, q].Nodup := by simp; omega
         have hpl : ∀ a ∈ [p, q], a < l.length := fun a ha => by simp at ha; omega
         refine CW.region ?_
         refine RG.vl rfl rfl rfl (Ev.move rfl rfl) ?_
         refine RG.vl rfl rfl rfl (Ev.move rfl rfl) ?_
         refine RG.vl rfl rfl rfl (Ev.move rfl rfl) ?_
         refine RG.litO (os := [.tmp 111, .tmp 112]) (enc := encZ) ([p, q]) rfl rfl rfl rfl rfl rfl rfl Tryz.underlying29 inf_3 rfl rfl rfl rfl rfl encZ_len rfl rfl (fun v79 wk80 hxwk80 hown81 hnew82 => ?_)
         replace hxwl77 := Ex.tr hxwl77 hxwk80
         have hE83 := hxwk80
         refine RG.call rfl rfl rfl rfl rfl rfl rfl en_78 (filled_ret _ _ l [p, q] _ ((hl.ext hxwl77)) ((hown81.rdl encZ_len)) hyes hpq (by show 2 ≤ 4; omega) hpl) ?_
         have hpre84 := (Ex.tr hB0 hxwl77)
         rintro _ w84 ⟨r84, b84, o84, rfl, hor84, hyes84, hno84, hx84⟩
         replace hxwl77 := Ex.tr hxwl77 hx84
         replace hE83 := Ex.tr hE83 hx84
         have hE85 := hx84
         refine RG.vl rfl rfl rfl (Ev.move rfl rfl) ?_
         refine RG.vl rfl rfl rfl (Ev.extract rfl rfl rfl) ?_
         refine RG.vl rfl rfl rfl (Ev.extract rfl rfl rfl) ?_
         refine RG.vl rfl rfl rfl (Ev.assign rfl rfl) ?_
         refine RG.vl rfl rfl rfl (Ev.assign rfl rfl) ?_
         refine RG.done ?_
         refine QW.sub (S' := [(0, _), (1, _), (13, _), (14, _), (15, _), (16, _)]) ⟨rfl, rfl, rfl, rfl, rfl, rfl, trivial⟩ ?_
         refine QW.then_ (CW.seq (CW.region ?_))
         refine RG.vl rfl rfl rfl (Ev.move rfl rfl) ?_
         refine RG.done (QW.then_ ?_)
         refine CW.cond rfl (fun hc86 => ?_) (fun hc86 => ?_)
         ·refine CW.seq ?_
          have hE28 : Ex w w84 := (Ex.tr hB0 hxwl77)
          refine CW.region ?_
          refine RG.vl rfl rfl rfl (Ev.move rfl rfl) ?_
          refine RG.vl rfl rfl rfl (Ev.move rfl rfl) ?_
          refine RG.vl rfl rfl rfl (Ev.move rfl rfl) ?_
          refine RG.litO (os := [.tmp 119, .tmp 120]) (enc := encZ) ([p, q]) rfl rfl rfl rfl rfl rfl rfl Tryz.underlying29 inf_3 rfl rfl rfl rfl rfl encZ_len rfl rfl (fun v87 wk88 hxwk88 hown89 hnew90 => ?_)
          replace hxwl77 := Ex.tr hxwl77 hxwk88
          replace hE83 := Ex.tr hE83 hxwk88
          replace hE85 := Ex.tr hE85 hxwk88
          have hE91 := hxwk88
          refine RG.vl rfl rfl rfl (Ev.assign rfl rfl) ?_
          refine RG.vl rfl rfl rfl (Ev.assign rfl rfl) ?_
          refine RG.vl rfl rfl rfl (Ev.assign rfl rfl) ?_
          refine RG.done (QW.then_ (CW.ret (QW.blockR (QW.thenRet (QW.thenRet (QW.blockR ?_))))))
          refine QW.blockR (QW.thenRet (QW.thenRet (QW.blockR (QW.thenRet ?_))))
          refine QW.ret3 rfl rfl rfl rfl ?_
          have hB := (Ex.tr hB0 hxwl77)
          exact ⟨_, _, o84, [p, q], 0, rfl, (Own.ext hor84 hE91).low (by have := hpre84.size; omega), Own.low (B' := w.heap.size) hown89 (by have := hE28.size; omega), .inr ⟨hyes, hok, .inr ⟨rfl, by rw [← her, he0]; exact near_two (by omega) (by omega) (fun q hq => by have := hone (by omega) q (by omega) (by rw [he0]; simp); rwa [he0] at this) (hyes84 (by assumption))⟩⟩, hB⟩
         ·refine CW.skip (QW.blockN (QW.then_ (CW.region ?_)))
          refine RG.vl rfl rfl rfl (Ev.move rfl rfl) ?_
          refine RG.vl rfl rfl rfl (Ev.addI rfl rfl rfl (by omega)) ?_
          refine RG.vl rfl rfl rfl (Ev.assign rfl rfl) ?_
          refine RG.done ?_
          refine QW.round1 (q + 1) ⟨rfl, trivial⟩ ⟨rfl, rfl, rfl, trivial⟩ ⟨⟨by omega, by omega, fun b h1 h2 => by rcases Nat.lt_or_ge b q with h | h; exact hthr b h1 h; obtain rfl : b = q := (by omega); exact hno84 (by assumption)⟩, (Ex.tr hB0 hxwl77)⟩ (by omega)
        ·refine CW.exit (QW.thenExit (QW.thenExit (QW.blockHit (QW.blockN (QW.then_ (CW.region ?_))))))
         refine RG.vl rfl rfl rfl (Ev.move rfl rfl) ?_
         refine RG.vl rfl rfl rfl (Ev.addI rfl rfl rfl (by omega)) ?_
         refine RG.vl rfl rfl rfl (Ev.assign rfl rfl) ?_
         refine RG.done ?_
         refine QW.round1 (p + 1) ⟨rfl, trivial⟩ ⟨rfl, rfl, trivial⟩ ⟨⟨by omega, fun he a b ha hab hb => by rcases Nat.lt_or_ge a p with h | h; exact htwo he a b h hab hb; obtain rfl : a = p := (by omega); exact hthr b hab (by omega)⟩, (Ex.tr hB0 hxwl77)⟩ (by omega)
       ·refine CW.exit (QW.thenExit (QW.thenExit (QW.blockHit (QW.then_ (CW.seq (CW.region ?_))))))
        refine RG.vl rfl rfl rfl (Ev.assign rfl rfl) ?_
        refine RG.vl rfl rfl rfl (Ev.assign rfl rfl) ?_
        refine RG.vl rfl rfl rfl (Ev.assign rfl rfl) ?_
        refine RG.done (QW.then_ (CW.ret ?_))
        refine QW.ret3 rfl rfl rfl rfl ?_
        have hB := (Ex.tr hB0 hxwl74)
        exact ⟨_, _, [], [], 190, rfl, Own.nil_ _ _ _ _ _, Own.nil_ _ _ _ _ _, .inr ⟨hyes, hok, .inl ⟨rfl, rfl, rfl, .inr (by rw [← her]; exact far_end hno0 (fun h2 a ha hn => hone h2 a (by omega) hn) (fun he a b hab hb => by have he1 : er.length = 0 := (by rw [he]; rfl); exact htwo he a b (by omega) hab hb))⟩⟩, hB⟩
      ·refine RG.pass rfl rfl rfl ?_
       refine RG.pass rfl rfl rfl ?_
       refine RG.pass rfl rfl rfl ?_
       refine RG.vl rfl rfl rfl (Ev.pickF rfl rfl rfl) ?_
       refine RG.done (QW.then_ ?_)
       refine CW.condF rfl ?_
       refine CW.exit (QW.thenExit (QW.thenExit (QW.blockHit (QW.then_ (CW.seq (CW.region ?_))))))
       refine RG.vl rfl rfl rfl (Ev.assign rfl rfl) ?_
       refine RG.vl rfl rfl rfl (Ev.assign rfl rfl) ?_
       refine RG.vl rfl rfl rfl (Ev.assign rfl rfl) ?_
       refine RG.done (QW.then_ (CW.ret ?_))
       refine QW.ret3 rfl rfl rfl rfl ?_
       have hB := (Ex.tr hB0 hxwl74)
       exact ⟨_, _, [], [], 190, rfl, Own.nil_ _ _ _ _ _, Own.nil_ _ _ _ _ _, .inr ⟨hyes, hok, .inl ⟨rfl, rfl, rfl, .inr (by rw [← her]; exact far_end hno0 (fun h2 a ha hn => hone h2 a (by omega) hn) (fun he a b hab hb => by have he1 : er.length = 0 := (by rw [he]; rfl); exact htwo he a b (by omega) hab hb))⟩⟩, hB⟩

end Go.Proofs.YtgjnchjkjdnidaaGreat

/- Walks (VB). Written by program. -/
namespace Go.Proofs.YtgjnchjkjdnidaaGreat
open Go.RowKit
theorem rwriteW_ret (u : Value) (c : List Nat) (w : World) (hl : RdL w 1 encN u c) (he : El c) (h66 : c.length ≤ 66) : Ret Tryz.prog 21 [u] w (fun v w' => v = .tuple #[.string ⟨(wd c).toArray⟩, .int .i64 0] ∧ Ex w w') :=
 (rwrite_ret u (bN c) w (rdl_bN hl (el_256 he)) (by rw [bN_len]; omega)).mono fun _ _ ⟨h, hx⟩ => ⟨by rw [h, writeB_wd he h66], hx⟩

set_option maxRecDepth 100000 in
set_option maxHeartbeats 1000000 in
theorem rwr22_ret (t : List UInt8) (w : World) (hlen : t.length ≤ 1000) :
  Ret Tryz.prog 10 [.string ⟨t.toArray⟩] w (fun v w' => ∃ x, v = .tuple #[.string ⟨x.toArray⟩, .int .i64 (errW t)] ∧ WrR t x ∧ Ex w w') := by
 have hts := sb_len t
 have hB0 : Ex w w := Ex.rfl_ _
 refine Ret.of Tryz.func10 rfl Tryz.ntmps10 rfl ?_
 refine CW.seq (CW.region ?_)
 refine RG.vl rfl rfl rfl (Ev.assign rfl rfl) ?_
 refine RG.vl rfl rfl rfl (Ev.assign rfl rfl) ?_
 refine RG.done (QW.then_ (CW.seq (CW.seq (CW.region ?_))))
 refine RG.vl rfl rfl rfl (Ev.move rfl rfl) ?_
 refine RG.vl rfl rfl rfl (Ev.lenStr rfl rfl rfl Tryz.underlying9) ?_
 refine RG.vl rfl rfl rfl (Ev.gtr rfl rfl rfl) ?_
 refine RG.done (QW.then_ ?_)
 refine CW.condP rfl (fun hc1 => ?_) (fun hc1 => ?_)
 ·refine CW.seq (CW.region ?_)
  refine RG.vl rfl rfl rfl (Ev.assign rfl rfl) ?_
  refine RG.vl rfl rfl rfl (Ev.assign rfl rfl) ?_
  refine RG.done (QW.then_ (CW.ret (QW.thenRet ?_)))
  refine QW.ret2 rfl rfl rfl ?_
  have hB := hB0
  have he := errW_long (t := t) (by omega)
  exact ⟨[], by rw [he], wr_no (by rw [he]; decide), hB⟩
 ·refine CW.skip (QW.then_ (CW.seq (CW.seq (CW.region ?_))))
  refine RG.vl rfl rfl rfl (Ev.assign rfl rfl) ?_
  refine RG.done (QW.then_ (CW.block ?_))
  refine CW.loop1 [(0, _)] ⟨rfl, trivial⟩ (fun (i : Nat) => [(4, .int .i64 (i : Int))]) (fun i w' => (i ≤ t.length ∧ (t.take i).all isDg = true) ∧ Ex w w') (fun i => t.length - i) (0) ⟨rfl, trivial⟩ ⟨⟨Nat.zero_le _, rfl⟩, hB0⟩ ?_
  rintro i wl2 ⟨⟨hi, hall⟩, hxwl2⟩
  refine CW.sub (S' := [(4, _), (0, _)]) ⟨rfl, rfl, trivial⟩ ?_
  refine CW.seq (CW.seq (CW.region ?_))
  refine RG.vl rfl rfl rfl (Ev.move rfl rfl) ?_
  refine RG.vl rfl rfl rfl (Ev.move rfl rfl) ?_
  refine RG.vl rfl rfl rfl (Ev.lenStr rfl rfl rfl Tryz.underlying9) ?_
  refine RG.vl rfl rfl rfl (Ev.lss rfl rfl rfl) ?_
  refine RG.done (QW.then_ ?_)
  refine CW.condP rfl (fun hc3 => ?_) (fun hc3 => ?_)
  ·refine CW.skip (QW.then_ (CW.seq (CW.block (CW.seq ?_))))
   obtain ⟨c, hc⟩ : ∃ c, t[i]? = some c := ⟨_, List.getElem?_eq_getElem (by omega)⟩
   refine CW.region ?_
   refine RG.vl rfl rfl rfl (Ev.move rfl rfl) ?_
   refine RG.vl rfl rfl rfl (Ev.move rfl rfl) ?_
   refine RG.vl rfl rfl rfl (Ev.byteAt rfl rfl rfl Tryz.underlying9 (by omega) (hc)) ?_
   refine RG.vl rfl rfl rfl (Ev.lss rfl rfl rfl) ?_
   refine RG.vl rfl rfl rfl (Ev.move rfl rfl) ?_
   refine RG.split (d := 20) rfl (fun hg4 => ?_) (fun hg4 => ?_)
   ·refine RG.pass rfl rfl rfl ?_
    refine RG.pass rfl rfl rfl ?_
    refine RG.pass rfl rfl rfl ?_
    refine RG.pass rfl rfl rfl ?_
    refine RG.vl rfl rfl rfl (Ev.pickT rfl rfl rfl) ?_
    refine RG.done ?_
    refine QW.sub (S' := [(0, _), (4, _), (25, _)]) ⟨rfl, rfl, rfl, trivial⟩ ?_
    refine QW.then_ ?_
    refine CW.condT rfl ?_
    refine CW.seq (CW.region ?_)
    refine RG.vl rfl rfl rfl (Ev.assign rfl rfl) ?_
    refine RG.vl rfl rfl rfl (Ev.assign rfl rfl) ?_
    refine RG.done (QW.then_ (CW.ret (QW.blockR (QW.thenRet (QW.thenRet (QW.blockR ?_))))))
    refine QW.thenRet ?_
    refine QW.ret2 rfl rfl rfl ?_
    have hB := (Ex.tr hB0 hxwl2)
    have he : errW t = 2 := errW_bad (by omega) (all_not hc (dg_no (by omega)))
    exact ⟨[], by rw [he], wr_no (by rw [he]; decide), hB⟩
   ·refine RG.vl rfl rfl rfl (Ev.move rfl rfl) ?_
    refine RG.vl rfl rfl rfl (Ev.move rfl rfl) ?_
    refine RG.vl rfl rfl rfl (Ev.byteAt rfl rfl rfl Tryz.underlying9 (by omega) (hc)) ?_
    refine RG.vl rfl rfl rfl (Ev.gtr rfl rfl rfl) ?_
    refine RG.vl rfl rfl rfl (Ev.pickF rfl rfl rfl) ?_
    refine RG.done ?_
    refine QW.sub (S' := [(0, _), (4, _), (25, _)]) ⟨rfl, rfl, rfl, trivial⟩ ?_
    refine QW.then_ ?_
    refine CW.condP rfl (fun hc5 => ?_) (fun hc5 => ?_)
    ·refine CW.seq (CW.region ?_)
     refine RG.vl rfl rfl rfl (Ev.assign rfl rfl) ?_
     refine RG.vl rfl rfl rfl (Ev.assign rfl rfl) ?_
     refine RG.done (QW.then_ (CW.ret (QW.blockR (QW.thenRet (QW.thenRet (QW.blockR ?_))))))
     refine QW.thenRet ?_
     refine QW.ret2 rfl rfl rfl ?_
     have hB := (Ex.tr hB0 hxwl2)
     have he : errW t = 2 := errW_bad (by omega) (all_not hc (dg_no (by omega)))
     exact ⟨[], by rw [he], wr_no (by rw [he]; decide), hB⟩
    ·refine CW.skip (QW.blockN (QW.then_ (CW.region ?_)))
     refine RG.vl rfl rfl rfl (Ev.move rfl rfl) ?_
     refine RG.vl rfl rfl rfl (Ev.addI rfl rfl rfl (by omega)) ?_
     refine RG.vl rfl rfl rfl (Ev.assign rfl rfl) ?_
     refine RG.done ?_
     refine QW.round1 (i + 1) ⟨rfl, trivial⟩ ⟨rfl, trivial⟩ ⟨⟨by omega, all_take hc hall (dg_yes (by omega) (by omega))⟩, (Ex.tr hB0 hxwl2)⟩ (by omega)
  ·refine CW.exit (QW.thenExit (QW.thenExit (QW.blockHit (QW.then_ (CW.seq ?_)))))
   obtain rfl : i = t.length := by omega
   rw [List.take_length] at hall
   have herr := errW_0 (by omega) hall
   refine CW.region ?_
   refine RG.vl rfl rfl rfl (Ev.move rfl rfl) ?_
   refine RG.call rfl rfl rfl rfl rfl rfl rfl en_23 (symb_ret _ _ hall (by omega)) ?_
   have hpre6 := (Ex.tr hB0 hxwl2)
   rintro sv6 w6 ⟨hsy6, hx6⟩
   replace hxwl2 := Ex.tr hxwl2 hx6
   have hE7 := hx6
   refine RG.call rfl rfl rfl rfl rfl rfl rfl en_22 (rencode_ret _ (b64 (numT t)) _ ((hsy6.rdl encN_len)) (by rw [b64_len]; decide) (b64_lt _)) ?_
   have hpre8 := (Ex.tr hB0 hxwl2)
   rintro ve w8 ⟨c1, hoe, hie, hx8⟩
   have hsep9 : Sep ve _ := Sep.of_new hsy6 (fun k h => Own.ge hoe h)
   replace hxwl2 := Ex.tr hxwl2 hx8
   replace hE7 := Ex.tr hE7 hx8
   have hE10 := hx8
   have hcl := enc20 hie
   refine RG.call rfl rfl rfl rfl rfl rfl rfl en_21 (rwriteW_ret _ c1 _ ((hoe.rdl encN_len)) hie.el (by omega)) ?_
   rintro _ w11 ⟨rfl, hx11⟩
   replace hxwl2 := Ex.tr hxwl2 hx11
   replace hE7 := Ex.tr hE7 hx11
   replace hE10 := Ex.tr hE10 hx11
   have hE12 := hx11
   have hwl := wd_len c1
   have hws := sb_len (wd c1)
   refine RG.vl rfl rfl rfl (Ev.move rfl rfl) ?_
   refine RG.vl rfl rfl rfl (Ev.extract rfl rfl rfl) ?_
   refine RG.vl rfl rfl rfl (Ev.extract rfl rfl rfl) ?_
   refine RG.vl rfl rfl rfl (Ev.assign rfl rfl) ?_
   refine RG.vl rfl rfl rfl (Ev.assign rfl rfl) ?_
   refine RG.done (QW.then_ (CW.seq (CW.region ?_)))
   refine RG.vl rfl rfl rfl (Ev.move rfl rfl) ?_
   refine RG.vl rfl rfl rfl ((Ev.cat rfl rfl rfl (by rw [sb_len]; show 2 + _ ≤ _; omega)).conv (congrArg Value.string (bx_cat [65, 84] _))) ?_
   refine RG.vl rfl rfl rfl ((Ev.cat rfl rfl rfl (by rw [sb_len, List.length_append]; show 2 + _ + 2 ≤ _; omega)).conv (congrArg Value.string (bx_cat _ [70, 68]))) ?_
   refine RG.vl rfl rfl rfl (Ev.assign rfl rfl) ?_
   refine RG.vl rfl rfl rfl (Ev.assign rfl rfl) ?_
   refine RG.done ?_
   refine QW.sub (S' := [(2, _), (3, _)]) ⟨rfl, rfl, trivial⟩ ?_
   refine QW.then_ (CW.ret ?_)
   refine QW.ret2 rfl rfl rfl ?_
   have hB := (Ex.tr hB0 hxwl2)
   exact ⟨_, by rw [herr]; rfl, ⟨fun _ => ⟨c1, hie, rfl⟩, fun h => absurd herr h⟩, hB⟩

set_option maxRecDepth 100000 in
set_option maxHeartbeats 4000000 in
theorem rrd22_ret (t : List UInt8) (w : World)  :
  Ret Tryz.prog 14 [.string ⟨t.toArray⟩] w (fun v w' => ∃ x b y z es er e, v = .tuple #[.agg ([.string ⟨x.toArray⟩, .bool b, y, z] : List Value).toArray, .int .i64 e] ∧ Own w' w.heap.size 3 1 encZ y es ∧ Own w' w.heap.size 3 1 encZ z er ∧ RdQ t x b es er e ∧ Ex w w') := by
 have hts := sb_len t
 have hB0 : Ex w w := Ex.rfl_ _
 refine Ret.of Tryz.func14 rfl Tryz.ntmps14 rfl ?_
 refine CW.seq (CW.region ?_)
 refine RG.alloc_ rfl rfl rfl rfl inf_39 (fun gR w1 egR hx1 hb1 => ?_)
 have hle2 : w.heap.size ≤ gR := by have := (Ex.rfl_ w).size; omega
 have hE3 := hx1
 refine RG.vl rfl rfl rfl (Ev.assign rfl rfl) ?_
 refine RG.done (QW.then_ (CW.seq (CW.seq (CW.region ?_))))
 refine RG.vl rfl rfl rfl (Ev.move rfl rfl) ?_
 refine RG.vl rfl rfl rfl (Ev.lenStr rfl rfl rfl Tryz.underlying9) ?_
 refine RG.vl rfl rfl rfl (Ev.neI rfl rfl rfl) ?_
 refine RG.done (QW.then_ ?_)
 refine CW.condP rfl (fun hc4 => ?_) (fun hc4 => ?_)
 ·refine CW.seq (CW.region ?_)
  refine RG.vl rfl rfl rfl (Ev.build1 rfl rfl rfl inf_39 rfl rfl (by kernel_rfl) rfl) ?_
  refine RG.stAll (g := gR) rfl rfl rfl rfl rfl sz_39 rfl rfl rfl hb1 (fun ws5 hwws5 hbws5 => ?_)
  replace hE3 := Wr.below hE3 hwws5 hle2
  refine RG.vl rfl rfl rfl (Ev.assign rfl rfl) ?_
  refine RG.done (QW.then_ (CW.ret (QW.thenRet ?_)))
  refine QW.retCT rfl rfl rfl Tryz.underlying39 rfl sz_39 (us := [.string _, .bool _, _, _]) rfl hbws5 ?_
  have hB := (Ex.tr hB0 hE3)
  exact ⟨[], false, _, _, [], [], 2, rfl, Own.nil_ _ _ _ _ _, Own.nil_ _ _ _ _ _, .len (by omega), hB⟩
 ·refine CW.skip (QW.then_ (CW.seq ?_))
  have h64 : t.length = 64 := by omega
  refine CW.region ?_
  refine RG.vl rfl rfl rfl (Ev.move rfl rfl) ?_
  refine RG.call rfl rfl rfl rfl rfl rfl rfl en_33 (runf_ret t _ (by omega)) ?_
  rintro _ w6 ⟨rfl, hx6⟩
  replace hE3 := Ex.tr hE3 hx6
  have hE7 := hx6
  refine RG.vl rfl rfl rfl (Ev.move rfl rfl) ?_
  refine RG.vl rfl rfl rfl (Ev.extract rfl rfl rfl) ?_
  refine RG.vl rfl rfl rfl (Ev.extract rfl rfl rfl) ?_
  refine RG.vl rfl rfl rfl (Ev.extract rfl rfl rfl) ?_
  refine RG.vl rfl rfl rfl (Ev.assign rfl rfl) ?_
  refine RG.vl rfl rfl rfl (Ev.assign rfl rfl) ?_
  refine RG.vl rfl rfl rfl (Ev.assign rfl rfl) ?_
  refine RG.done ?_
  refine QW.sub (S' := [(2, _), (3, _), (4, _), (5, _), (6, _)]) ⟨rfl, rfl, rfl, rfl, rfl, trivial⟩ ?_
  refine QW.then_ (CW.seq (CW.seq (CW.region ?_)))
  refine RG.vl rfl rfl rfl (Ev.move rfl rfl) ?_
  refine RG.vl rfl rfl rfl (Ev.neI rfl rfl rfl) ?_
  refine RG.done (QW.then_ ?_)
  refine CW.condP rfl (fun hc8 => ?_) (fun hc8 => ?_)
  ·refine CW.seq (CW.region ?_)
   refine RG.vl rfl rfl rfl (Ev.build1 rfl rfl rfl inf_39 rfl rfl (by kernel_rfl) rfl) ?_
   refine RG.vl rfl rfl rfl (Ev.move rfl rfl) ?_
   refine RG.stAll (g := gR) rfl rfl rfl rfl rfl sz_39 rfl rfl rfl (hb1.ext hE7) (fun ws9 hwws9 hbws9 => ?_)
   replace hE3 := Wr.below hE3 hwws9 hle2
   refine RG.vl rfl rfl rfl (Ev.assign rfl rfl) ?_
   refine RG.done (QW.then_ (CW.ret (QW.thenRet ?_)))
   refine QW.retCT rfl rfl rfl Tryz.underlying39 rfl sz_39 (us := [.string _, .bool _, _, _]) rfl hbws9 ?_
   have hB := (Ex.tr hB0 hE3)
   exact ⟨[], false, _, _, [], [], _, rfl, Own.nil_ _ _ _ _ _, Own.nil_ _ _ _ _ _, .ends h64 (by omega), hB⟩
  ·refine CW.skip (QW.then_ (CW.seq ?_))
   have he0 : (unframeB t).2.2 = 0 := by omega
   obtain ⟨h60, h60a⟩ := unf_60 h64 he0
   refine CW.region ?_
   refine RG.vl rfl rfl rfl (Ev.move rfl rfl) ?_
   refine RG.call rfl rfl rfl rfl rfl rfl rfl en_34 (brread_ret (unframeB t).1 _ (by omega)) ?_
   have hpre10 := (Ex.tr hB0 hE3)
   rintro _ w10 ⟨br, be, rfl, hob, hor2, hx10⟩
   have hsb11 := fun e => sep_blk (hb1.ext hE7) (Nat.le_refl _) hob e
   have hsb12 := fun e => sep_blk (hb1.ext hE7) (Nat.le_refl _) hor2 e
   replace hob := Own.low (B' := w.heap.size) hob (by have := (Ex.tr hB0 hE3).size; omega)
   replace hor2 := Own.low (B' := w.heap.size) hor2 (by have := (Ex.tr hB0 hE3).size; omega)
   replace hE3 := Ex.tr hE3 hx10
   replace hE7 := Ex.tr hE7 hx10
   have hE13 := hx10
   have hr0 : (readB (unframeB t).1).2.2 = 0 := by rw [read_60 h60 h60a]
   rw [hr0]
   obtain ⟨bA, bC, rfl⟩ := hob.shape
   obtain ⟨eA, eC, rfl⟩ := hor2.shape
   have hobN := own_nB hob
   have hl20 : (nB (readB (unframeB t).1).1).length = 20 := by rw [nB_len, read_60 h60 h60a]; exact syms_len _ _
   have hel20 : (readB (unframeB t).1).2.1.length ≤ 20 := by rw [read_60 h60 h60a]; exact eras_len _ _
   refine RG.vl rfl rfl rfl (Ev.move rfl rfl) ?_
   refine RG.vl rfl rfl rfl (Ev.extract rfl rfl rfl) ?_
   refine RG.vl rfl rfl rfl (Ev.extract rfl rfl rfl) ?_
   refine RG.vl rfl rfl rfl (Ev.extract rfl rfl rfl) ?_
   refine RG.vl rfl rfl rfl (Ev.assign rfl rfl) ?_
   refine RG.vl rfl rfl rfl (Ev.assign rfl rfl) ?_
   refine RG.vl rfl rfl rfl (Ev.assign rfl rfl) ?_
   refine RG.done (QW.then_ (CW.seq (CW.region ?_)))
   refine RG.vl rfl rfl rfl (Ev.move rfl rfl) ?_
   refine RG.vl rfl rfl rfl (Ev.move rfl rfl) ?_
   refine RG.call rfl rfl rfl rfl rfl rfl rfl en_35 (rdecode_ret _ _ (nB (readB (unframeB t).1).1) (castI (readB (unframeB t).1).2.1) _ (rdl_nB (hob.rdl encB_len)) (rdl_i (hor2.rdl encZ_len)) (by omega) (by rw [show (castI (readB (unframeB t).1).2.1).length = (readB (unframeB t).1).2.1.length from List.length_map ..]; omega)) ?_
   have hpre14 := (Ex.tr hB0 hE3)
   rintro _ w14 ⟨cr, cx, c, es, e, rfl, hoc, hox, hdp, hx14⟩
   have hsb15 := fun e => sep_blk (hb1.ext hE7) (Nat.le_refl _) hoc e
   have hsb16 := fun e => sep_blk (hb1.ext hE7) (Nat.le_refl _) hox e
   replace hoc := Own.low (B' := w.heap.size) hoc (by have := (Ex.tr hB0 hE3).size; omega)
   replace hox := Own.low (B' := w.heap.size) hox (by have := (Ex.tr hB0 hE3).size; omega)
   replace hE3 := Ex.tr hE3 hx14
   replace hE7 := Ex.tr hE7 hx14
   replace hE13 := Ex.tr hE13 hx14
   have hE17 := hx14
   obtain ⟨cA, cC, rfl⟩ := hoc.shape
   obtain ⟨xA, xC, rfl⟩ := hox.shape
   refine RG.vl rfl rfl rfl (Ev.move rfl rfl) ?_
   refine RG.vl rfl rfl rfl (Ev.extract rfl rfl rfl) ?_
   refine RG.vl rfl rfl rfl (Ev.extract rfl rfl rfl) ?_
   refine RG.vl rfl rfl rfl (Ev.extract rfl rfl rfl) ?_
   refine RG.vl rfl rfl rfl (Ev.assign rfl rfl) ?_
   refine RG.vl rfl rfl rfl (Ev.assign rfl rfl) ?_
   refine RG.vl rfl rfl rfl (Ev.assign rfl rfl) ?_
   refine RG.done ?_
   refine QW.sub (S' := [(2, _), (3, _), (5, _), (6, _), (8, _), (10, _), (11, _)]) ⟨rfl, rfl, rfl, rfl, rfl, rfl, rfl, trivial⟩ ?_
   refine QW.then_ (CW.seq (CW.seq (CW.region ?_)))
   refine RG.vl rfl rfl rfl (Ev.move rfl rfl) ?_
   refine RG.vl rfl rfl rfl (Ev.neI rfl rfl rfl) ?_
   refine RG.done (QW.then_ ?_)
   refine CW.condP rfl (fun hc18 => ?_) (fun hc18 => ?_)
   ·refine CW.seq (CW.region ?_)
    refine RG.vl rfl rfl rfl (Ev.build1 rfl rfl rfl inf_39 rfl rfl (by kernel_rfl) rfl) ?_
    refine RG.vl rfl rfl rfl (Ev.move rfl rfl) ?_
    refine RG.stAll (g := gR) rfl rfl rfl rfl rfl sz_39 rfl rfl rfl (hb1.ext hE7) (fun ws19 hwws19 hbws19 => ?_)
    replace hob := Own.far (Own.ext hob hE17) hwws19 hsb11
    replace hor2 := Own.far (Own.ext hor2 hE17) hwws19 hsb12
    replace hoc := Own.far hoc hwws19 hsb15
    replace hox := Own.far hox hwws19 hsb16
    replace hE3 := Wr.below hE3 hwws19 hle2
    refine RG.vl rfl rfl rfl (Ev.assign rfl rfl) ?_
    refine RG.done (QW.then_ (CW.ret (QW.thenRet ?_)))
    refine QW.retCT rfl rfl rfl Tryz.underlying39 rfl sz_39 (us := [.string _, .bool _, _, _]) rfl hbws19 ?_
    have hB := (Ex.tr hB0 hE3)
    exact ⟨[], false, _, _, [], [], _, rfl, Own.nil_ _ _ _ _ _, Own.nil_ _ _ _ _ _, .far h64 he0 hdp (by omega), hB⟩
   ·refine CW.skip (QW.then_ (CW.seq ?_))
    obtain rfl : e = 0 := by omega
    obtain ⟨hc20, hce⟩ := rdec_e h60 h60a hdp
    have hc16 : (c.take 16).length = 16 := by rw [List.length_take]; omega
    have hce16 : El (c.take 16) := hce.take 16
    refine CW.region ?_
    refine RG.vl rfl rfl rfl (Ev.move rfl rfl) ?_
    refine RG.sliceL (L := 0) (H := 16) _ rfl rfl rfl rfl rfl Tryz.underlying58 sz_5 ((hoc.rdl encN_len)) (.inl ⟨rfl, rfl⟩) (.inr ⟨_, _, _, rfl, rfl, by omega⟩) (by omega) (by omega) (fun v20 hrv20 => ?_)
    rw [List.drop_zero] at hrv20
    refine RG.call rfl rfl rfl rfl rfl rfl rfl en_36 (rpay_ret _ (c.take 16) _ (hrv20) hc16 hce16) ?_
    rintro _ w21 ⟨rp, hpay, rfl, hx21⟩
    replace hE3 := Ex.tr hE3 hx21
    replace hE7 := Ex.tr hE7 hx21
    replace hE13 := Ex.tr hE13 hx21
    replace hE17 := Ex.tr hE17 hx21
    have hE22 := hx21
    refine RG.vl rfl rfl rfl (Ev.move rfl rfl) ?_
    refine RG.vl rfl rfl rfl (Ev.extract rfl rfl rfl) ?_
    refine RG.vl rfl rfl rfl (Ev.extract rfl rfl rfl) ?_
    refine RG.vl rfl rfl rfl (Ev.assign rfl rfl) ?_
    refine RG.vl rfl rfl rfl (Ev.assign rfl rfl) ?_
    refine RG.done (QW.then_ (CW.seq (CW.seq (CW.region ?_))))
    refine RG.vl rfl rfl rfl (Ev.move rfl rfl) ?_
    refine RG.vl rfl rfl rfl (Ev.not rfl rfl) ?_
    refine RG.done (QW.then_ ?_)
    refine CW.cond rfl (fun hc23 => ?_) (fun hc23 => ?_)
    ·refine CW.seq (CW.region ?_)
     refine RG.vl rfl rfl rfl (Ev.build1 rfl rfl rfl inf_39 rfl rfl (by kernel_rfl) rfl) ?_
     refine RG.stAll (g := gR) rfl rfl rfl rfl rfl sz_39 rfl rfl rfl (hb1.ext hE7) (fun ws24 hwws24 hbws24 => ?_)
     replace hob := Own.far (Own.ext hob hE17) hwws24 hsb11
     replace hor2 := Own.far (Own.ext hor2 hE17) hwws24 hsb12
     replace hoc := Own.far (Own.ext hoc hE22) hwws24 hsb15
     replace hox := Own.far (Own.ext hox hE22) hwws24 hsb16
     replace hE3 := Wr.below hE3 hwws24 hle2
     refine RG.vl rfl rfl rfl (Ev.assign rfl rfl) ?_
     refine RG.done ?_
     refine QW.sub (S' := [(2, _), (3, _), (5, _), (8, _), (11, _), (12, _)]) ⟨rfl, rfl, rfl, rfl, rfl, rfl, trivial⟩ ?_
     refine QW.then_ (CW.ret (QW.thenRet ?_))
     refine QW.retCT rfl rfl rfl Tryz.underlying39 rfl sz_39 (us := [.string _, .bool _, _, _]) rfl hbws24 ?_
     have hB := (Ex.tr hB0 hE3)
     have hrn : rp = none := by cases rp with
      | none => rfl
      | some t => exact absurd (show (!true) = true by assumption) (by decide)
     subst hrn
     exact ⟨[], false, _, _, [], [], 220, rfl, Own.nil_ _ _ _ _ _, Own.nil_ _ _ _ _ _, .code h64 he0 hdp hpay, hB⟩
    ·refine CW.skip (QW.then_ (CW.seq (CW.region ?_)))
     refine RG.vl rfl rfl rfl (Ev.move rfl rfl) ?_
     refine RG.vl rfl rfl rfl (Ev.move rfl rfl) ?_
     refine RG.vl rfl rfl rfl (Ev.move rfl rfl) ?_
     refine RG.vl rfl rfl rfl (Ev.move rfl rfl) ?_
     refine RG.vl rfl rfl rfl (Ev.build1 rfl rfl rfl inf_39 rfl rfl (by kernel_rfl) rfl) ?_
     refine RG.stAll (g := gR) rfl rfl rfl rfl rfl sz_39 rfl rfl rfl (hb1.ext hE7) (fun ws25 hwws25 hbws25 => ?_)
     replace hob := Own.far (Own.ext hob hE17) hwws25 hsb11
     replace hor2 := Own.far (Own.ext hor2 hE17) hwws25 hsb12
     replace hoc := Own.far (Own.ext hoc hE22) hwws25 hsb15
     replace hox := Own.far (Own.ext hox hE22) hwws25 hsb16
     replace hE3 := Wr.below hE3 hwws25 hle2
     refine RG.vl rfl rfl rfl (Ev.assign rfl rfl) ?_
     refine RG.done ?_
     refine QW.sub (S' := [(2, _), (3, _)]) ⟨rfl, rfl, trivial⟩ ?_
     refine QW.then_ (CW.ret ?_)
     refine QW.retCT rfl rfl rfl Tryz.underlying39 rfl sz_39 (us := [.string _, .bool _, _, _]) rfl hbws25 ?_
     have hB := (Ex.tr hB0 hE3)
     obtain ⟨t1, rfl⟩ : ∃ t1, rp = some t1 := by cases rp with
      | none => exact absurd (show (!false) = false by assumption) (by decide)
      | some t => exact ⟨t, rfl⟩
     exact ⟨t1, (unframeB t).2.1, _, _, es, (readB (unframeB t).1).2.1, 0, rfl, hox, hor2, .found h64 he0 hdp hpay, hB⟩

end Go.Proofs.YtgjnchjkjdnidaaGreat

/- Walks (VC). Written by program. -/
namespace Go.Proofs.YtgjnchjkjdnidaaGreat
open Go.RowKit
set_option maxRecDepth 100000 in
set_option maxHeartbeats 1000000 in
theorem same22_ret (x : List UInt8) (b : Bool) (u1 u2 v1 v2 : Value) (es er : List Nat) (w : World) (h1 : RdL w 1 encZ u1 es) (h2 : RdL w 1 encZ u2 er) (h3 : RdL w 1 encZ v1 es) (h4 : RdL w 1 encZ v2 er) (hs : es.length ≤ 1000) (hr : er.length ≤ 1000) :
  Ret Tryz.prog 9 [.agg ([.string ⟨x.toArray⟩, .bool b, u1, u2] : List Value).toArray, .agg ([.string ⟨x.toArray⟩, .bool b, v1, v2] : List Value).toArray] w (fun v w' => v = .bool true ∧ Ex w w') := by
 obtain ⟨A1, C1, rfl⟩ := h1.shape
 obtain ⟨A2, C2, rfl⟩ := h2.shape
 obtain ⟨A3, C3, rfl⟩ := h3.shape
 obtain ⟨A4, C4, rfl⟩ := h4.shape
 have hB0 : Ex w w := Ex.rfl_ _
 refine Ret.of Tryz.func9 rfl Tryz.ntmps9 rfl ?_
 refine CW.seq (CW.region ?_)
 refine RG.box rfl rfl rfl rfl rfl (fun ga w1 ega hx1 hb1 => ?_)
 have hle2 : w.heap.size ≤ ga := by have := (Ex.rfl_ w).size; omega
 have hE3 := hx1
 refine RG.box rfl rfl rfl rfl rfl (fun gb w4 egb hx4 hb4 => ?_)
 have hle5 : w.heap.size ≤ gb := by have := hE3.size; omega
 have hle6 : w1.heap.size ≤ gb := by have := (Ex.rfl_ w1).size; omega
 have hlt7 : ga < gb := by have := Blk.lt hb1; omega
 replace hE3 := Ex.tr hE3 hx4
 have hE8 := hx4
 refine RG.vl rfl rfl rfl (Ev.assign rfl rfl) ?_
 refine RG.done (QW.then_ (CW.seq ?_))
 cases b with
 | false =>
  refine CW.region ?_
  refine RG.vl rfl rfl rfl (Ev.fld rfl rfl fld_31_0) ?_
  refine RG.vl rfl rfl rfl (Ev.ldAt rfl rfl Tryz.underlying9 rfl ((hb1.ext hE8).cells) (rfl)) ?_
  refine RG.vl rfl rfl rfl (Ev.fld rfl rfl fld_39_0) ?_
  refine RG.vl rfl rfl rfl (Ev.ldAt rfl rfl Tryz.underlying9 rfl (hb4.cells) (rfl)) ?_
  refine RG.vl rfl rfl rfl (Ev.isT (Ev.eqS rfl rfl rfl) (rfl)) ?_
  refine RG.vl rfl rfl rfl (Ev.move rfl rfl) ?_
  refine RG.vl rfl rfl rfl (Ev.fld rfl rfl fld_31_1) ?_
  refine RG.vl rfl rfl rfl (Ev.ldAt rfl rfl Tryz.underlying4 rfl ((hb1.ext hE8).cells) (rfl)) ?_
  refine RG.vl rfl rfl rfl (Ev.fld rfl rfl fld_39_1) ?_
  refine RG.vl rfl rfl rfl (Ev.ldAt rfl rfl Tryz.underlying4 rfl (hb4.cells) (rfl)) ?_
  refine RG.vl rfl rfl rfl (Ev.isT (Ev.eqB rfl rfl rfl Tryz.underlying4) (rfl)) ?_
  refine RG.vl rfl rfl rfl (Ev.pickT rfl rfl rfl) ?_
  refine RG.vl rfl rfl rfl (Ev.move rfl rfl) ?_
  refine RG.vl rfl rfl rfl (Ev.fld rfl rfl fld_31_2) ?_
  refine RG.vl rfl rfl rfl (Ev.ldAt rfl rfl Tryz.underlying29 rfl ((hb1.ext hE8).cells) (rfl)) ?_
  refine RG.vl rfl rfl rfl (Ev.fld rfl rfl fld_39_2) ?_
  refine RG.vl rfl rfl rfl (Ev.ldAt rfl rfl Tryz.underlying29 rfl (hb4.cells) (rfl)) ?_
  refine RG.call rfl rfl rfl rfl rfl rfl rfl en_17 (sameI_t _ _ es _ ((h1.ext hE3)) ((h3.ext hE3)) (by omega)) ?_
  rintro _ w9 ⟨rfl, hx9⟩
  replace hE3 := Ex.tr hE3 hx9
  replace hE8 := Ex.tr hE8 hx9
  have hE10 := hx9
  refine RG.vl rfl rfl rfl (Ev.pickT rfl rfl rfl) ?_
  refine RG.vl rfl rfl rfl (Ev.move rfl rfl) ?_
  refine RG.vl rfl rfl rfl (Ev.fld rfl rfl fld_31_3) ?_
  refine RG.vl rfl rfl rfl (Ev.ldAt rfl rfl Tryz.underlying29 rfl ((hb1.ext hE8).cells) (rfl)) ?_
  refine RG.vl rfl rfl rfl (Ev.fld rfl rfl fld_39_3) ?_
  refine RG.vl rfl rfl rfl (Ev.ldAt rfl rfl Tryz.underlying29 rfl ((hb4.ext hE10).cells) (rfl)) ?_
  refine RG.call rfl rfl rfl rfl rfl rfl rfl en_17 (sameI_t _ _ er _ ((h2.ext hE3)) ((h4.ext hE3)) (by omega)) ?_
  rintro _ w11 ⟨rfl, hx11⟩
  replace hE3 := Ex.tr hE3 hx11
  replace hE8 := Ex.tr hE8 hx11
  replace hE10 := Ex.tr hE10 hx11
  have hE12 := hx11
  refine RG.vl rfl rfl rfl (Ev.pickT rfl rfl rfl) ?_
  refine RG.vl rfl rfl rfl (Ev.assign rfl rfl) ?_
  refine RG.done ?_
  refine QW.sub (S' := [(4, _)]) ⟨rfl, trivial⟩ ?_
  refine QW.then_ (CW.ret ?_)
  refine QW.ret1 rfl rfl ?_
  have hB := (Ex.tr hB0 hE3)
  exact ⟨rfl, hB⟩
 | true =>
  refine CW.region ?_
  refine RG.vl rfl rfl rfl (Ev.fld rfl rfl fld_31_0) ?_
  refine RG.vl rfl rfl rfl (Ev.ldAt rfl rfl Tryz.underlying9 rfl ((hb1.ext hE8).cells) (rfl)) ?_
  refine RG.vl rfl rfl rfl (Ev.fld rfl rfl fld_39_0) ?_
  refine RG.vl rfl rfl rfl (Ev.ldAt rfl rfl Tryz.underlying9 rfl (hb4.cells) (rfl)) ?_
  refine RG.vl rfl rfl rfl (Ev.isT (Ev.eqS rfl rfl rfl) (rfl)) ?_
  refine RG.vl rfl rfl rfl (Ev.move rfl rfl) ?_
  refine RG.vl rfl rfl rfl (Ev.fld rfl rfl fld_31_1) ?_
  refine RG.vl rfl rfl rfl (Ev.ldAt rfl rfl Tryz.underlying4 rfl ((hb1.ext hE8).cells) (rfl)) ?_
  refine RG.vl rfl rfl rfl (Ev.fld rfl rfl fld_39_1) ?_
  refine RG.vl rfl rfl rfl (Ev.ldAt rfl rfl Tryz.underlying4 rfl (hb4.cells) (rfl)) ?_
  refine RG.vl rfl rfl rfl (Ev.isT (Ev.eqB rfl rfl rfl Tryz.underlying4) (rfl)) ?_
  refine RG.vl rfl rfl rfl (Ev.pickT rfl rfl rfl) ?_
  refine RG.vl rfl rfl rfl (Ev.move rfl rfl) ?_
  refine RG.vl rfl rfl rfl (Ev.fld rfl rfl fld_31_2) ?_
  refine RG.vl rfl rfl rfl (Ev.ldAt rfl rfl Tryz.underlying29 rfl ((hb1.ext hE8).cells) (rfl)) ?_
  refine RG.vl rfl rfl rfl (Ev.fld rfl rfl fld_39_2) ?_
  refine RG.vl rfl rfl rfl (Ev.ldAt rfl rfl Tryz.underlying29 rfl (hb4.cells) (rfl)) ?_
  refine RG.call rfl rfl rfl rfl rfl rfl rfl en_17 (sameI_t _ _ es _ ((h1.ext hE3)) ((h3.ext hE3)) (by omega)) ?_
  rintro _ w13 ⟨rfl, hx13⟩
  replace hE3 := Ex.tr hE3 hx13
  replace hE8 := Ex.tr hE8 hx13
  have hE14 := hx13
  refine RG.vl rfl rfl rfl (Ev.pickT rfl rfl rfl) ?_
  refine RG.vl rfl rfl rfl (Ev.move rfl rfl) ?_
  refine RG.vl rfl rfl rfl (Ev.fld rfl rfl fld_31_3) ?_
  refine RG.vl rfl rfl rfl (Ev.ldAt rfl rfl Tryz.underlying29 rfl ((hb1.ext hE8).cells) (rfl)) ?_
  refine RG.vl rfl rfl rfl (Ev.fld rfl rfl fld_39_3) ?_
  refine RG.vl rfl rfl rfl (Ev.ldAt rfl rfl Tryz.underlying29 rfl ((hb4.ext hE14).cells) (rfl)) ?_
  refine RG.call rfl rfl rfl rfl rfl rfl rfl en_17 (sameI_t _ _ er _ ((h2.ext hE3)) ((h4.ext hE3)) (by omega)) ?_
  rintro _ w15 ⟨rfl, hx15⟩
  replace hE3 := Ex.tr hE3 hx15
  replace hE8 := Ex.tr hE8 hx15
  replace hE14 := Ex.tr hE14 hx15
  have hE16 := hx15
  refine RG.vl rfl rfl rfl (Ev.pickT rfl rfl rfl) ?_
  refine RG.vl rfl rfl rfl (Ev.assign rfl rfl) ?_
  refine RG.done ?_
  refine QW.sub (S' := [(4, _)]) ⟨rfl, trivial⟩ ?_
  refine QW.then_ (CW.ret ?_)
  refine QW.ret1 rfl rfl ?_
  have hB := (Ex.tr hB0 hE3)
  exact ⟨rfl, hB⟩

end Go.Proofs.YtgjnchjkjdnidaaGreat

/- Walks (VE). Written by program. -/
namespace Go.Proofs.YtgjnchjkjdnidaaGreat
open Go.RowKit
set_option maxRecDepth 100000 in
set_option maxHeartbeats 4000000 in
theorem rscan_ret (s : Su) (u : Value) (l : List Br) (w : World) (hl : RdL w 3 Br.c u l) (hlen : l.length ≤ 1000) :
  Ret Tryz.prog 8 [s.v, u] w (fun v w' => ∃ x b y z es er e, v = .tuple #[.agg ([.string ⟨x.toArray⟩, .bool b, y, z] : List Value).toArray, .int .i64 e] ∧ Own w' w.heap.size 3 1 encZ y es ∧ Own w' w.heap.size 3 1 encZ z er ∧ ScQ s l x b es er e ∧ Ex w w') := by
 have hB0 : Ex w w := Ex.rfl_ _
 refine Ret.of Tryz.func8 rfl Tryz.ntmps8 rfl ?_
 refine CW.seq (CW.region ?_)
 refine RG.box rfl rfl rfl rfl rfl (fun g1 w1 eg1 hx1 hb1 => ?_)
 have hle2 : w.heap.size ≤ g1 := by have := (Ex.rfl_ w).size; omega
 have hE3 := hx1
 refine RG.alloc_ rfl rfl rfl rfl inf_39 (fun gR w4 egR hx4 hb4 => ?_)
 have hle5 : w.heap.size ≤ gR := by have := hE3.size; omega
 have hle6 : w1.heap.size ≤ gR := by have := (Ex.rfl_ w1).size; omega
 have hlt7 : g1 < gR := by have := Blk.lt hb1; omega
 replace hE3 := Ex.tr hE3 hx4
 have hE8 := hx4
 refine RG.vl rfl rfl rfl (Ev.assign rfl rfl) ?_
 refine RG.done (QW.then_ (CW.seq (CW.seq (CW.region ?_))))
 refine RG.vl rfl rfl rfl (Ev.fld rfl rfl fld_38_0) ?_
 refine RG.vl rfl rfl rfl (Ev.ldAt rfl rfl Tryz.underlying3 rfl ((hb1.ext hE8).cells) (rfl)) ?_
 refine RG.vl rfl rfl rfl (Ev.neI rfl rfl rfl) ?_
 refine RG.done (QW.then_ ?_)
 refine CW.condP rfl (fun hc9 => ?_) (fun hc9 => ?_)
 ·refine CW.seq (CW.region ?_)
  refine RG.vl rfl rfl rfl (Ev.build1 rfl rfl rfl inf_39 rfl rfl (by kernel_rfl) rfl) ?_
  refine RG.stAll (g := gR) rfl rfl rfl rfl rfl sz_39 rfl rfl rfl hb4 (fun ws10 hwws10 hbws10 => ?_)
  replace hE3 := Wr.below hE3 hwws10 hle5
  replace hE8 := Wr.below hE8 hwws10 hle6
  refine RG.vl rfl rfl rfl (Ev.assign rfl rfl) ?_
  refine RG.done (QW.then_ (CW.ret (QW.thenRet ?_)))
  refine QW.retCT rfl rfl rfl Tryz.underlying39 rfl sz_39 (us := [.string _, .bool _, _, _]) rfl hbws10 ?_
  have hB := (Ex.tr hB0 hE3)
  exact ⟨[], false, _, _, [], [], 2, rfl, Own.nil_ _ _ _ _ _, Own.nil_ _ _ _ _ _, .inl ⟨by omega, rfl, rfl, rfl, rfl, rfl⟩, hB⟩
 ·refine CW.skip (QW.then_ (CW.seq (CW.region ?_)))
  refine RG.vl rfl rfl rfl (Ev.ldAgg rfl rfl Tryz.underlying38 rfl sz_38 rfl ((hb1.ext hE8).cells)) ?_
  refine RG.vl rfl rfl rfl (Ev.move rfl rfl) ?_
  refine RG.call rfl rfl rfl rfl rfl rfl rfl en_20 (hrread_ret s _ l _ ((hl.ext hE3)) (by omega)) ?_
  rintro _ w11 ⟨rfl, hx11⟩
  replace hE3 := Ex.tr hE3 hx11
  replace hE8 := Ex.tr hE8 hx11
  have hE12 := hx11
  refine RG.vl rfl rfl rfl (Ev.move rfl rfl) ?_
  refine RG.vl rfl rfl rfl (Ev.extract rfl rfl rfl) ?_
  refine RG.vl rfl rfl rfl (Ev.extract rfl rfl rfl) ?_
  refine RG.vl rfl rfl rfl (Ev.assign rfl rfl) ?_
  refine RG.vl rfl rfl rfl (Ev.assign rfl rfl) ?_
  refine RG.done ?_
  refine QW.sub (S' := [(4, _), (5, _), (6, _), (7, _)]) ⟨rfl, rfl, rfl, rfl, trivial⟩ ?_
  refine QW.then_ (CW.seq (CW.seq (CW.region ?_)))
  refine RG.vl rfl rfl rfl (Ev.move rfl rfl) ?_
  refine RG.vl rfl rfl rfl (Ev.neI rfl rfl rfl) ?_
  refine RG.done (QW.then_ ?_)
  refine CW.condP rfl (fun hc13 => ?_) (fun hc13 => ?_)
  ·refine CW.seq (CW.region ?_)
   refine RG.vl rfl rfl rfl (Ev.build1 rfl rfl rfl inf_39 rfl rfl (by kernel_rfl) rfl) ?_
   refine RG.vl rfl rfl rfl (Ev.move rfl rfl) ?_
   refine RG.stAll (g := gR) rfl rfl rfl rfl rfl sz_39 rfl rfl rfl (hb4.ext hE12) (fun ws14 hwws14 hbws14 => ?_)
   replace hE3 := Wr.below hE3 hwws14 hle5
   replace hE8 := Wr.below hE8 hwws14 hle6
   refine RG.vl rfl rfl rfl (Ev.assign rfl rfl) ?_
   refine RG.done (QW.then_ (CW.ret (QW.thenRet ?_)))
   refine QW.retCT rfl rfl rfl Tryz.underlying39 rfl sz_39 (us := [.string _, .bool _, _, _]) rfl hbws14 ?_
   have hB := (Ex.tr hB0 hE3)
   exact ⟨[], false, _, _, [], [], _, rfl, Own.nil_ _ _ _ _ _, Own.nil_ _ _ _ _ _, .inr (.inl ⟨by omega, by omega, rfl, rfl, rfl, rfl, rfl⟩), hB⟩
  ·refine CW.skip (QW.then_ (CW.seq (CW.region ?_)))
   refine RG.vl rfl rfl rfl (Ev.move rfl rfl) ?_
   refine RG.call rfl rfl rfl rfl rfl rfl rfl en_14 (rrd22_ret _ _) ?_
   have hpre15 := (Ex.tr hB0 hE3)
   rintro _ w15 ⟨rx, rb, ry, rz, rs, re, rn, rfl, hoy, hoz, hrd, hx15⟩
   have hsb16 := fun e => sep_blk (hb1.ext hE8) (Nat.le_refl _) hoy e
   have hsb17 := fun e => sep_blk (hb4.ext hE12) (Nat.le_refl _) hoy e
   have hsb18 := fun e => sep_blk (hb1.ext hE8) (Nat.le_refl _) hoz e
   have hsb19 := fun e => sep_blk (hb4.ext hE12) (Nat.le_refl _) hoz e
   replace hoy := Own.low (B' := w.heap.size) hoy (by have := (Ex.tr hB0 hE3).size; omega)
   replace hoz := Own.low (B' := w.heap.size) hoz (by have := (Ex.tr hB0 hE3).size; omega)
   replace hE3 := Ex.tr hE3 hx15
   replace hE8 := Ex.tr hE8 hx15
   replace hE12 := Ex.tr hE12 hx15
   have hE20 := hx15
   obtain ⟨A1, B1, rfl⟩ := hoy.shape
   obtain ⟨C1, D1, rfl⟩ := hoz.shape
   refine RG.vl rfl rfl rfl (Ev.extract rfl rfl rfl) ?_
   refine RG.vl rfl rfl rfl (Ev.extract rfl rfl rfl) ?_
   refine RG.stAll (g := gR) rfl rfl rfl rfl rfl sz_39 rfl rfl rfl (hb4.ext hE12) (fun ws21 hwws21 hbws21 => ?_)
   replace hoy := Own.far hoy hwws21 hsb17
   replace hoz := Own.far hoz hwws21 hsb19
   replace hE3 := Wr.below hE3 hwws21 hle5
   replace hE8 := Wr.below hE8 hwws21 hle6
   refine RG.vl rfl rfl rfl (Ev.assign rfl rfl) ?_
   refine RG.done (QW.then_ (CW.ret ?_))
   refine QW.retCT rfl rfl rfl Tryz.underlying39 rfl sz_39 (us := [.string _, .bool _, _, _]) rfl hbws21 ?_
   have hB := (Ex.tr hB0 hE3)
   exact ⟨_, _, _, _, _, _, _, rfl, hoy, hoz, .inr (.inr ⟨by omega, by omega, hrd⟩), hB⟩

end Go.Proofs.YtgjnchjkjdnidaaGreat

