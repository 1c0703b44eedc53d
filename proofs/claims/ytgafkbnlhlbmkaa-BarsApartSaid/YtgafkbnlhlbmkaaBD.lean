/- Walks (BD). Written by program. -/
import Derived.Test.YtgafkbnlhlbmkaaT
import Derived.Test.YtgafkbnlhlbmkaaBX
namespace Go.Proofs.Ytgafkbnlhlbmkaa
open Go.RowKit
set_option maxRecDepth 100000 in
set_option maxHeartbeats 1000000 in
theorem write_ret (wv : Value) (l : List UInt8) (w : World) (hws : RdL w 1 encB wv l) :
    Ret Try.prog 12 [wv] w (fun v w' => v = .tuple #[.string ⟨(writeB l).1.toArray⟩, .int .i64 (writeB l).2] ∧ Ex w w') := by
  obtain ⟨wA, wC, rfl⟩ := hws.shape
  have hB0 : Ex w w := Ex.rfl_ _
  refine Ret.of Try.func12 rfl Try.ntmps12 rfl ?_
  refine CW.seq ?_
  refine CW.region ?_
  refine RG.vl rfl rfl rfl (Ev.assign rfl rfl) ?_
  refine RG.vl rfl rfl rfl (Ev.assign rfl rfl) ?_
  refine RG.done ?_
  refine QW.then_ ?_
  refine CW.seq ?_
  refine CW.seq ?_
  refine CW.region ?_
  refine RG.vl rfl rfl rfl (Ev.move rfl rfl) ?_
  refine RG.vl rfl rfl rfl (Ev.lenL rfl rfl rfl Try.underlying22 (hws)) ?_
  refine RG.vl rfl rfl rfl (Ev.gtr rfl rfl rfl) ?_
  refine RG.done ?_
  refine QW.then_ ?_
  refine CW.condP rfl (fun hc1 => ?_) (fun hc1 => ?_)
  · refine CW.seq ?_
    refine CW.region ?_
    refine RG.vl rfl rfl rfl (Ev.assign rfl rfl) ?_
    refine RG.vl rfl rfl rfl (Ev.assign rfl rfl) ?_
    refine RG.done ?_
    refine QW.then_ ?_
    refine CW.ret ?_
    refine QW.thenRet ?_
    refine QW.ret2 rfl rfl rfl ?_
    have hB := hB0
    exact ⟨by rw [w_long (by omega)], hB⟩
  · refine CW.skip ?_
    refine QW.then_ ?_
    refine CW.seq ?_
    refine CW.region ?_
    refine RG.alloc_ rfl rfl rfl rfl inf_55 (fun gB w2 egB hx2 hb2 => ?_)
    have hbd0 := Nat.le_of_eq egB.symm
    have hE3 := hx2
    have hbd := bd_new hb2 hbd0
    refine RG.done ?_
    refine QW.then_ ?_
    refine CW.seq ?_
    refine CW.seq ?_
    refine CW.region ?_
    refine RG.vl rfl rfl rfl (Ev.move rfl rfl) ?_
    refine RG.vl rfl rfl rfl (Ev.lenL rfl rfl rfl Try.underlying22 ((hws.ext hE3))) ?_
    refine RG.vl rfl rfl rfl (Ev.move rfl rfl) ?_
    refine RG.done ?_
    refine QW.then_ ?_
    refine CW.block ?_
    refine CW.loop1 [(4, _), (12, _), (13, _)] ⟨rfl, rfl, rfl, trivial⟩ (fun (i : Nat) => [(14, .int .i64 (i : Int))]) (fun i w' => (i ≤ l.length ∧ (l.take i).all (fun s => decide (s.toNat < 64)) = true ∧ Bd w w' gB ((l.take i).flatMap w3)) ∧ Ex w w') (fun i => l.length - i) (0) ⟨rfl, trivial⟩ ⟨⟨by omega, rfl, hbd⟩, (Ex.tr hB0 hE3)⟩ ?_
    rintro i wl4 ⟨⟨hi, hall, hbd⟩, hxwl4⟩
    refine CW.sub (S' := [(14, _), (4, _), (12, _), (13, _)]) ⟨rfl, rfl, rfl, rfl, trivial⟩ ?_
    refine CW.seq ?_
    refine CW.region ?_
    refine RG.vl rfl rfl rfl (Ev.lss rfl rfl rfl) ?_
    refine RG.done ?_
    refine QW.then_ ?_
    refine CW.seq ?_
    refine CW.condP rfl (fun hc5 => ?_) (fun hc5 => ?_)
    · refine CW.skip ?_
      refine QW.then_ ?_
      refine CW.seq ?_
      refine CW.block ?_
      refine CW.seq ?_
      obtain ⟨x, hx⟩ : ∃ x, l[i]? = some x := ⟨_, List.getElem?_eq_getElem (by omega)⟩
      have hx8 := x.toNat_lt
      have hwl := w3s_len (l.take i)
      rw [List.length_take] at hwl
      refine CW.region ?_
      refine RG.idxL rfl rfl rfl rfl rfl rfl Try.underlying22 sz_5 ((hws.ext hxwl4)) (hx) (fun p6 hp6b hp6 => ?_)
      refine RG.vl rfl rfl rfl (Ev.ld0 rfl rfl Try.underlying5 rfl (hp6) (rfl)) ?_
      refine RG.vl rfl rfl rfl (Ev.assign rfl rfl) ?_
      refine RG.done ?_
      refine QW.then_ ?_
      refine CW.seq ?_
      refine CW.seq ?_
      refine CW.region ?_
      refine RG.vl rfl rfl rfl (Ev.move rfl rfl) ?_
      refine RG.vl rfl rfl rfl (Ev.geq rfl rfl rfl) ?_
      refine RG.done ?_
      refine QW.then_ ?_
      refine CW.condP rfl (fun hc7 => ?_) (fun hc7 => ?_)
      · refine CW.seq ?_
        refine CW.region ?_
        refine RG.vl rfl rfl rfl (Ev.assign rfl rfl) ?_
        refine RG.vl rfl rfl rfl (Ev.assign rfl rfl) ?_
        refine RG.done ?_
        refine QW.then_ ?_
        refine CW.ret ?_
        refine QW.thenRet ?_
        refine QW.blockR ?_
        refine QW.thenRet ?_
        refine QW.thenRet ?_
        refine QW.blockR ?_
        refine QW.thenRet ?_
        refine QW.ret2 rfl rfl rfl ?_
        have hB := (Ex.tr hB0 hxwl4)
        exact ⟨by rw [w_bad (by omega) hx (by omega)], hB⟩
      · refine CW.skip ?_
        refine QW.then_ ?_
        refine CW.seq ?_
        refine CW.region ?_
        refine RG.vl rfl rfl rfl (Ev.move rfl rfl) ?_
        refine RG.vl rfl rfl rfl ((Ev.quo8 rfl rfl rfl (by omega)).conv (congrArg (Value.int .u8) (show (x.toNat : Int) / 16 = ((x.toNat / 16 : Nat) : Int) by omega))) ?_
        refine RG.vl rfl rfl rfl (Ev.move rfl rfl) ?_
        refine RG.vl rfl rfl rfl ((Ev.quo8 rfl rfl rfl (by omega)).conv (congrArg (Value.int .u8) (show (x.toNat : Int) / 4 = ((x.toNat / 4 : Nat) : Int) by omega))) ?_
        refine RG.vl rfl rfl rfl ((Ev.rem8 rfl rfl rfl (by omega)).conv (congrArg (Value.int .u8) (show ((x.toNat / 4 : Nat) : Int) % 4 = ((x.toNat / 4 % 4 : Nat) : Int) by omega))) ?_
        refine RG.vl rfl rfl rfl (Ev.move rfl rfl) ?_
        refine RG.vl rfl rfl rfl ((Ev.rem8 rfl rfl rfl (by omega)).conv (congrArg (Value.int .u8) (show (x.toNat : Int) % 4 = ((x.toNat % 4 : Nat) : Int) by omega))) ?_
        refine RG.vl rfl rfl rfl (Ev.buildA (len := 3) (xs := [.tmp 21, .tmp 24, .tmp 26]) rfl rfl rfl rfl Try.underlying56 sz_5 inf_56 rfl rfl) ?_
        refine RG.vl rfl rfl rfl (Ev.move rfl rfl) ?_
        refine RG.done ?_
        refine QW.sub (S' := [(4, _), (12, _), (13, _), (14, _), (27, _), (28, _)]) ⟨rfl, rfl, rfl, rfl, rfl, rfl, trivial⟩ ?_
        refine QW.then_ ?_
        refine CW.block ?_
        refine CW.loop1 [(4, _), (12, _), (13, _), (14, _), (27, _)] ⟨rfl, rfl, rfl, rfl, rfl, trivial⟩ (fun (j : Nat) => [(28, .int .i64 (j : Int))]) (fun j w' => (j ≤ 3 ∧ Bd w w' gB ((l.take i).flatMap w3 ++ (w3 x).take j)) ∧ Ex w w') (fun j => 3 - j) (0) ⟨rfl, trivial⟩ ⟨⟨by omega, by rw [List.take_zero, List.append_nil]; exact hbd⟩, (Ex.tr hB0 hxwl4)⟩ ?_
        rintro j wl8 ⟨⟨hj, hbd⟩, hxwl8⟩
        refine CW.sub (S' := [(28, _), (4, _), (12, _), (13, _), (14, _), (27, _)]) ⟨rfl, rfl, rfl, rfl, rfl, rfl, trivial⟩ ?_
        refine CW.seq ?_
        refine CW.region ?_
        refine RG.vl rfl rfl rfl (Ev.lss rfl rfl rfl) ?_
        refine RG.done ?_
        refine QW.then_ ?_
        refine CW.seq ?_
        refine CW.condP rfl (fun hc9 => ?_) (fun hc9 => ?_)
        · refine CW.skip ?_
          refine QW.then_ ?_
          refine CW.seq ?_
          refine CW.block ?_
          refine CW.seq ?_
          obtain rfl | rfl | rfl : j = 0 ∨ j = 1 ∨ j = 2 := by omega
          · refine CW.region ?_
            refine RG.vl rfl rfl rfl (Ev.idxArr rfl rfl rfl Try.underlying56 Try.underlying5 rfl sz_5 (by omega) (rfl)) ?_
            refine RG.vl rfl rfl rfl (Ev.assign rfl rfl) ?_
            refine RG.done ?_
            refine QW.then_ ?_
            refine CW.region ?_
            refine RG.vl rfl rfl rfl (Ev.move rfl rfl) ?_
            refine RG.vl rfl rfl rfl (Ev.byteAt rfl rfl rfl Try.underlying9 (by omega) ((show _ = some (ltr (x.toNat / 16)) from ltr_s4 (by omega)))) ?_
            refine RG.call rfl rfl rfl rfl rfl rfl rfl en_27 (bd_wbyte (ltr (x.toNat / 16)) (Ex.tr hB0 hxwl8) hbd (by rw [List.length_append, List.length_take]; omega)) ?_
            rintro _ w10 ⟨rfl, hbd11, hxb12⟩
            replace hxwl8 := hxb12
            refine RG.done ?_
            refine QW.blockN ?_
            refine QW.then_ ?_
            refine CW.region ?_
            refine RG.vl rfl rfl rfl (Ev.addI rfl rfl rfl (by omega)) ?_
            refine RG.vl rfl rfl rfl (Ev.move rfl rfl) ?_
            refine RG.done ?_
            refine QW.round1 (0 + 1) ⟨rfl, trivial⟩ ⟨rfl, rfl, rfl, rfl, rfl, trivial⟩ ⟨⟨by omega, by rw [List.append_assoc] at *; exact hbd11⟩, (Ex.tr hB0 hxwl8)⟩ (by omega)
          · refine CW.region ?_
            refine RG.vl rfl rfl rfl (Ev.idxArr rfl rfl rfl Try.underlying56 Try.underlying5 rfl sz_5 (by omega) (rfl)) ?_
            refine RG.vl rfl rfl rfl (Ev.assign rfl rfl) ?_
            refine RG.done ?_
            refine QW.then_ ?_
            refine CW.region ?_
            refine RG.vl rfl rfl rfl (Ev.move rfl rfl) ?_
            refine RG.vl rfl rfl rfl (Ev.byteAt rfl rfl rfl Try.underlying9 (by omega) ((show _ = some (ltr (x.toNat / 4 % 4)) from ltr_s4 (by omega)))) ?_
            refine RG.call rfl rfl rfl rfl rfl rfl rfl en_27 (bd_wbyte (ltr (x.toNat / 4 % 4)) (Ex.tr hB0 hxwl8) hbd (by rw [List.length_append, List.length_take]; omega)) ?_
            rintro _ w13 ⟨rfl, hbd14, hxb15⟩
            replace hxwl8 := hxb15
            refine RG.done ?_
            refine QW.blockN ?_
            refine QW.then_ ?_
            refine CW.region ?_
            refine RG.vl rfl rfl rfl (Ev.addI rfl rfl rfl (by omega)) ?_
            refine RG.vl rfl rfl rfl (Ev.move rfl rfl) ?_
            refine RG.done ?_
            refine QW.round1 (1 + 1) ⟨rfl, trivial⟩ ⟨rfl, rfl, rfl, rfl, rfl, trivial⟩ ⟨⟨by omega, by rw [List.append_assoc] at *; exact hbd14⟩, (Ex.tr hB0 hxwl8)⟩ (by omega)
          · refine CW.region ?_
            refine RG.vl rfl rfl rfl (Ev.idxArr rfl rfl rfl Try.underlying56 Try.underlying5 rfl sz_5 (by omega) (rfl)) ?_
            refine RG.vl rfl rfl rfl (Ev.assign rfl rfl) ?_
            refine RG.done ?_
            refine QW.then_ ?_
            refine CW.region ?_
            refine RG.vl rfl rfl rfl (Ev.move rfl rfl) ?_
            refine RG.vl rfl rfl rfl (Ev.byteAt rfl rfl rfl Try.underlying9 (by omega) ((show _ = some (ltr (x.toNat % 4)) from ltr_s4 (by omega)))) ?_
            refine RG.call rfl rfl rfl rfl rfl rfl rfl en_27 (bd_wbyte (ltr (x.toNat % 4)) (Ex.tr hB0 hxwl8) hbd (by rw [List.length_append, List.length_take]; omega)) ?_
            rintro _ w16 ⟨rfl, hbd17, hxb18⟩
            replace hxwl8 := hxb18
            refine RG.done ?_
            refine QW.blockN ?_
            refine QW.then_ ?_
            refine CW.region ?_
            refine RG.vl rfl rfl rfl (Ev.addI rfl rfl rfl (by omega)) ?_
            refine RG.vl rfl rfl rfl (Ev.move rfl rfl) ?_
            refine RG.done ?_
            refine QW.round1 (2 + 1) ⟨rfl, trivial⟩ ⟨rfl, rfl, rfl, rfl, rfl, trivial⟩ ⟨⟨by omega, by rw [List.append_assoc] at *; exact hbd17⟩, (Ex.tr hB0 hxwl8)⟩ (by omega)
        · refine CW.exit ?_
          refine QW.thenExit ?_
          refine QW.thenExit ?_
          refine QW.blockHit ?_
          refine QW.blockN ?_
          refine QW.then_ ?_
          refine CW.region ?_
          refine RG.vl rfl rfl rfl (Ev.addI rfl rfl rfl (by omega)) ?_
          refine RG.vl rfl rfl rfl (Ev.move rfl rfl) ?_
          refine RG.done ?_
          refine QW.round1 (i + 1) ⟨rfl, trivial⟩ ⟨rfl, rfl, rfl, trivial⟩ ⟨⟨by omega, sym_more hx hall (by omega), by obtain rfl : j = 3 := (by omega); rw [w3_more hx]; exact hbd⟩, (Ex.tr hB0 hxwl8)⟩ (by omega)
    · refine CW.exit ?_
      refine QW.thenExit ?_
      refine QW.thenExit ?_
      refine QW.blockHit ?_
      refine QW.then_ ?_
      refine CW.seq ?_
      refine CW.region ?_
      refine RG.call rfl rfl rfl rfl rfl rfl rfl en_28 (bd_str (Ex.tr hB0 hxwl4) hbd) ?_
      rintro _ w19 ⟨rfl, hxb21⟩
      replace hxwl4 := hxb21
      refine RG.vl rfl rfl rfl (Ev.assign rfl rfl) ?_
      refine RG.vl rfl rfl rfl (Ev.assign rfl rfl) ?_
      refine RG.done ?_
      refine QW.then_ ?_
      refine CW.ret ?_
      refine QW.ret2 rfl rfl rfl ?_
      have hB := (Ex.tr hB0 hxwl4)
      obtain rfl : i = l.length := by omega
      rw [List.take_length] at hall
      exact ⟨by rw [w_ok (by omega) hall, List.take_length], hB⟩

end Go.Proofs.Ytgafkbnlhlbmkaa
