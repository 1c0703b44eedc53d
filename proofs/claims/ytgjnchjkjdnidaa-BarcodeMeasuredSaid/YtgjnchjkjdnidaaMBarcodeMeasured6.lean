/- Texts put together by program: UK, UL, UW, UX, UZ. -/
import Derived.Test.YtgjnchjkjdnidaaMBarcodeMeasured5
/- Walks (UK). Written by program. -/
namespace Go.Proofs.Ytgjnchjkjdnidaa
open Go.RowKit
set_option maxRecDepth 100000 in
set_option maxHeartbeats 4000000 in
theorem near_ret (g inn td : List UInt8) (b : Bool) (c es er : List Nat) (A B : Option Addr) (C D : Nat) (w : World) (hu : unframeB g = (inn, b, 0)) (hi60 : inn.length = 60) (hia : inn.all isL = true) (hw : WrR td (frm (wd c))) (htd : errW td = 0) (hc : c.length = 20) (hce : El c) (hes : es = diffs (nB (symsL inn 20)) c (erasL inn 20)) (her : er = erasL inn 20) (h4 : 2 * es.length + er.length ≤ 4) :
    Ret Try.prog 18 [.string ⟨g.toArray⟩, .agg ([.string ⟨td.toArray⟩, .bool b, .slice A es.length C, .slice B er.length D] : List Value).toArray] w (fun v w' => v = .bool true ∧ Ex w w') := by
  obtain ⟨hg0, hg1⟩ := unf_frm hu
  have hwl := wd_len c
  have hfl := frm_len inn
  have hfx := frm_len (wd c)
  have hsl := sb_len (frm inn)
  have hsx := sb_len (frm (wd c))
  obtain ⟨ht28, _⟩ := errW_ok htd
  have hB0 : Ex w w := Ex.rfl_ _
  refine Ret.of Try.func18 rfl Try.ntmps18 rfl ?_
  refine CW.seq ?_
  refine CW.region ?_
  refine RG.box rfl rfl rfl rfl rfl (fun gX w1 egX hx1 hb1 => ?_)
  have hle2 : w.heap.size ≤ gX := by have := (Ex.rfl_ w).size; omega
  have hE3 := hx1
  refine RG.vl rfl rfl rfl (Ev.assign rfl rfl) ?_
  refine RG.done ?_
  refine QW.then_ ?_
  refine CW.seq ?_
  refine CW.seq ?_
  cases b with
  | false =>
    refine CW.region ?_
    refine RG.vl rfl rfl rfl (Ev.fld rfl rfl fld_43_1) ?_
    refine RG.vl rfl rfl rfl (Ev.ldAt rfl rfl Try.underlying4 rfl (hb1.cells) (rfl)) ?_
    refine RG.done ?_
    refine QW.then_ ?_
    refine CW.condF rfl ?_
    refine CW.skip ?_
    refine QW.then_ ?_
    refine CW.seq ?_
    obtain rfl := hg0 rfl
    refine CW.region ?_
    refine RG.vl rfl rfl rfl (Ev.fld rfl rfl fld_43_0) ?_
    refine RG.vl rfl rfl rfl (Ev.ldAt rfl rfl Try.underlying9 rfl (hb1.cells) (rfl)) ?_
    refine RG.call rfl rfl rfl rfl rfl rfl rfl en_13 (wr_is _ hw htd (by omega)) ?_
    rintro _ w4 ⟨rfl, hx4⟩
    replace hE3 := Ex.tr hE3 hx4
    have hE5 := hx4
    refine RG.vl rfl rfl rfl (Ev.move rfl rfl) ?_
    refine RG.vl rfl rfl rfl (Ev.extract rfl rfl rfl) ?_
    refine RG.vl rfl rfl rfl (Ev.extract rfl rfl rfl) ?_
    refine RG.vl rfl rfl rfl (Ev.assign rfl rfl) ?_
    refine RG.vl rfl rfl rfl (Ev.assign rfl rfl) ?_
    refine RG.done ?_
    refine QW.then_ ?_
    refine CW.seq ?_
    refine CW.seq ?_
    refine CW.draw [] (.ex) 23 rfl mixed (fun wd6 hxwd6 => ?_)
    replace hE3 := Ex.tr hE3 hxwd6
    replace hE5 := Ex.tr hE5 hxwd6
    refine AG.takeW 0 rfl (by kernel_rfl) (by kernel_rfl) rfl rfl rfl (fun _ => Ev.move rfl rfl) ?_
    refine AG.takeW 1 rfl (by kernel_rfl) (by kernel_rfl) rfl rfl rfl (fun _ => Ev.isF (Ev.neI rfl rfl rfl) (fun h => h rfl)) ?_
    refine AG.takeW 2 rfl (by kernel_rfl) (by kernel_rfl) rfl rfl rfl (fun _ => Ev.move rfl rfl) ?_
    refine AG.takeW 3 rfl (by kernel_rfl) (by kernel_rfl) rfl rfl rfl (fun _ => Ev.move rfl rfl) ?_
    refine AG.takeW 4 rfl (by kernel_rfl) (by kernel_rfl) rfl rfl rfl (fun _ => Ev.lenStr rfl rfl rfl Try.underlying9) ?_
    refine AG.takeW 5 rfl (by kernel_rfl) (by kernel_rfl) rfl rfl rfl (fun _ => Ev.move rfl rfl) ?_
    refine AG.takeW 6 rfl (by kernel_rfl) (by kernel_rfl) rfl rfl rfl (fun _ => Ev.lenStr rfl rfl rfl Try.underlying9) ?_
    refine AG.takeW 7 rfl (by kernel_rfl) (by kernel_rfl) rfl rfl rfl (fun _ => Ev.isF (Ev.neI rfl rfl rfl) (fun h => h (by omega))) ?_
    refine AG.takeW 8 rfl (by kernel_rfl) (by kernel_rfl) rfl rfl rfl (fun _ => Ev.pickF rfl rfl rfl) ?_
    refine AG.takeW 9 rfl (by kernel_rfl) (by kernel_rfl) rfl rfl rfl (fun _ => Ev.move rfl rfl) ?_
    refine AG.takeW 10 rfl (by kernel_rfl) (by kernel_rfl) rfl rfl rfl (fun _ => Ev.move rfl rfl) ?_
    refine AG.takeW 11 rfl (by kernel_rfl) (by kernel_rfl) rfl rfl rfl (fun _ => (Ev.cutStr (i := 0) (j := 2) rfl rfl Try.underlying9 rfl rfl (by omega) (by omega)).conv (congrArg Value.string ((bx_cut (frm (wd c)) 0 2).trans (show _ = (⟨[65, 84].toArray⟩ : ByteArray) from rfl)))) ?_
    refine AG.takeW 12 rfl (by kernel_rfl) (by kernel_rfl) rfl rfl rfl (fun _ => Ev.move rfl rfl) ?_
    refine AG.takeW 13 rfl (by kernel_rfl) (by kernel_rfl) rfl rfl rfl (fun _ => (Ev.cutStr (i := 0) (j := 2) rfl rfl Try.underlying9 rfl rfl (by omega) (by omega)).conv (congrArg Value.string ((bx_cut (frm inn) 0 2).trans (show _ = (⟨[65, 84].toArray⟩ : ByteArray) from rfl)))) ?_
    refine AG.takeW 14 rfl (by kernel_rfl) (by kernel_rfl) rfl rfl rfl (fun _ => Ev.isF (Ev.neS rfl rfl rfl) (fun h => h rfl)) ?_
    refine AG.takeW 15 rfl (by kernel_rfl) (by kernel_rfl) rfl rfl rfl (fun _ => Ev.pickF rfl rfl rfl) ?_
    refine AG.takeW 16 rfl (by kernel_rfl) (by kernel_rfl) rfl rfl rfl (fun _ => Ev.move rfl rfl) ?_
    refine AG.takeW 17 rfl (by kernel_rfl) (by kernel_rfl) rfl rfl rfl (fun _ => Ev.move rfl rfl) ?_
    refine AG.takeW 18 rfl (by kernel_rfl) (by kernel_rfl) rfl rfl rfl (fun _ => (Ev.cutStr (i := 62) rfl rfl Try.underlying9 rfl rfl (by omega) (Nat.le_refl _)).conv (congrArg Value.string ((bx_cut (frm (wd c)) 62 _).trans (by rw [hsx, hfx, hwl, hc, frm_end (by omega)])))) ?_
    refine AG.takeW 19 rfl (by kernel_rfl) (by kernel_rfl) rfl rfl rfl (fun _ => Ev.move rfl rfl) ?_
    refine AG.takeW 20 rfl (by kernel_rfl) (by kernel_rfl) rfl rfl rfl (fun _ => (Ev.cutStr (i := 62) rfl rfl Try.underlying9 rfl rfl (by omega) (Nat.le_refl _)).conv (congrArg Value.string ((bx_cut (frm inn) 62 _).trans (by rw [hsl, hfl, hi60, frm_end hi60])))) ?_
    refine AG.takeW 21 rfl (by kernel_rfl) (by kernel_rfl) rfl rfl rfl (fun _ => Ev.isF (Ev.neS rfl rfl rfl) (fun h => h rfl)) ?_
    refine AG.takeW 22 rfl (by kernel_rfl) (by kernel_rfl) rfl rfl rfl (fun _ => Ev.pickF rfl rfl rfl) ?_
    refine AG.done (by kernel_rfl) ?_
    refine QW.sub (S' := [(0, _), (3, _), (4, _), (7, _), (52, _)]) ⟨rfl, rfl, rfl, rfl, rfl, trivial⟩ ?_
    refine QW.then_ ?_
    refine CW.condF rfl ?_
    refine CW.skip ?_
    refine QW.then_ ?_
    refine CW.seq ?_
    refine CW.region ?_
    refine RG.vl rfl rfl rfl (Ev.assign rfl rfl) ?_
    refine RG.vl rfl rfl rfl (Ev.assign rfl rfl) ?_
    refine RG.done ?_
    refine QW.then_ ?_
    refine CW.seq ?_
    refine CW.seq ?_
    refine CW.region ?_
    refine RG.vl rfl rfl rfl (Ev.move rfl rfl) ?_
    refine RG.done ?_
    refine QW.then_ ?_
    refine CW.block ?_
    replace hb1 := (hb1.ext hE5)
    have hR7 := (Ex.tr hB0 hE3)
    have hR8 := hE5
    refine CW.loop1 [(0, _), (3, _), (4, _), (7, _)] ⟨rfl, rfl, rfl, rfl, trivial⟩ (fun (i : Nat) => [(53, .int .i64 (i : Int)), (9, .int .i64 ((((List.range i).filter (nrB (wd c) inn)).length : Nat) : Int)), (10, .int .i64 (((erasL inn i).length : Nat) : Int))]) (fun i w' => (i ≤ 20) ∧ Ex wd6 w') (fun i => 20 - i) (0) ⟨rfl, rfl, rfl, trivial⟩ ⟨Nat.zero_le _, (Ex.rfl_ _)⟩ ?_
    rintro i wl9 ⟨hi, hxwl9⟩
    refine CW.sub (S' := [(53, _), (9, _), (10, _), (0, _), (3, _), (4, _), (7, _)]) ⟨rfl, rfl, rfl, rfl, rfl, rfl, rfl, trivial⟩ ?_
    refine CW.seq ?_
    refine CW.region ?_
    refine RG.vl rfl rfl rfl (Ev.lss rfl rfl rfl) ?_
    refine RG.done ?_
    refine QW.then_ ?_
    refine CW.seq ?_
    refine CW.condP rfl (fun hc10 => ?_) (fun hc10 => ?_)
    · refine CW.skip ?_
      refine QW.then_ ?_
      refine CW.seq ?_
      refine CW.block ?_
      refine CW.seq ?_
      refine CW.region ?_
      refine RG.vl rfl rfl rfl (Ev.move rfl rfl) ?_
      refine RG.vl rfl rfl rfl (Ev.assign rfl rfl) ?_
      refine RG.done ?_
      refine QW.then_ ?_
      refine CW.seq ?_
      have hpq := part_eq (T := inn) (i := i) (by omega)
      obtain ⟨p1, p2, p3, hp, _⟩ := hpq
      have hpx := part_eq (T := wd c) (i := i) (by omega)
      have htn := told_nr (wd c) inn i
      have hte := told_er inn i
      have hel := eras_len inn i
      have hnl := List.length_filter_le (nrB (wd c) inn) (List.range i)
      rw [List.length_range] at hnl
      refine CW.draw [] (.ex) 18 rfl mixed (fun wd11 hxwd11 => ?_)
      replace hxwl9 := Ex.tr hxwl9 hxwd11
      have hE12 := hxwd11
      refine AG.takeW 0 rfl (by kernel_rfl) (by kernel_rfl) rfl rfl rfl (fun _ => Ev.move rfl rfl) ?_
      refine AG.takeW 1 rfl (by kernel_rfl) (by kernel_rfl) rfl rfl rfl (fun _ => Ev.move rfl rfl) ?_
      refine AG.takeW 2 rfl (by kernel_rfl) (by kernel_rfl) rfl rfl rfl (fun _ => (Ev.mulI rfl rfl rfl (by omega)).conv (congrArg (Value.int .i64) (show (3 : Int) * (i : Int) = ((3 * i : Nat) : Int) by omega))) ?_
      refine AG.takeW 3 rfl (by kernel_rfl) (by kernel_rfl) rfl rfl rfl (fun _ => (Ev.addI rfl rfl rfl (by omega)).conv (congrArg (Value.int .i64) (show (2 : Int) + ((3 * i : Nat) : Int) = ((2 + 3 * i : Nat) : Int) by omega))) ?_
      refine AG.takeW 4 rfl (by kernel_rfl) (by kernel_rfl) rfl rfl rfl (fun _ => Ev.move rfl rfl) ?_
      refine AG.takeW 5 rfl (by kernel_rfl) (by kernel_rfl) rfl rfl rfl (fun _ => (Ev.mulI rfl rfl rfl (by omega)).conv (congrArg (Value.int .i64) (show (3 : Int) * (i : Int) = ((3 * i : Nat) : Int) by omega))) ?_
      refine AG.takeW 6 rfl (by kernel_rfl) (by kernel_rfl) rfl rfl rfl (fun _ => (Ev.addI rfl rfl rfl (by omega)).conv (congrArg (Value.int .i64) (show (5 : Int) + ((3 * i : Nat) : Int) = ((5 + 3 * i : Nat) : Int) by omega))) ?_
      refine AG.takeW 7 rfl (by kernel_rfl) (by kernel_rfl) rfl rfl rfl (fun _ => (Ev.cutStr (i := 2 + 3 * i) (j := 5 + 3 * i) rfl rfl Try.underlying9 rfl rfl (by omega) (by omega)).conv (congrArg Value.string ((bx_cut (frm (wd c)) (2 + 3 * i) (5 + 3 * i)).trans (by rw [frm_part (by omega)])))) ?_
      refine AG.takeW 8 rfl (by kernel_rfl) (by kernel_rfl) rfl rfl rfl (fun _ => Ev.move rfl rfl) ?_
      refine AG.takeW 9 rfl (by kernel_rfl) (by kernel_rfl) rfl rfl rfl (fun _ => Ev.move rfl rfl) ?_
      refine AG.takeW 10 rfl (by kernel_rfl) (by kernel_rfl) rfl rfl rfl (fun _ => (Ev.mulI rfl rfl rfl (by omega)).conv (congrArg (Value.int .i64) (show (3 : Int) * (i : Int) = ((3 * i : Nat) : Int) by omega))) ?_
      refine AG.takeW 11 rfl (by kernel_rfl) (by kernel_rfl) rfl rfl rfl (fun _ => (Ev.addI rfl rfl rfl (by omega)).conv (congrArg (Value.int .i64) (show (2 : Int) + ((3 * i : Nat) : Int) = ((2 + 3 * i : Nat) : Int) by omega))) ?_
      refine AG.takeW 12 rfl (by kernel_rfl) (by kernel_rfl) rfl rfl rfl (fun _ => Ev.move rfl rfl) ?_
      refine AG.takeW 13 rfl (by kernel_rfl) (by kernel_rfl) rfl rfl rfl (fun _ => (Ev.mulI rfl rfl rfl (by omega)).conv (congrArg (Value.int .i64) (show (3 : Int) * (i : Int) = ((3 * i : Nat) : Int) by omega))) ?_
      refine AG.takeW 14 rfl (by kernel_rfl) (by kernel_rfl) rfl rfl rfl (fun _ => (Ev.addI rfl rfl rfl (by omega)).conv (congrArg (Value.int .i64) (show (5 : Int) + ((3 * i : Nat) : Int) = ((5 + 3 * i : Nat) : Int) by omega))) ?_
      refine AG.takeW 15 rfl (by kernel_rfl) (by kernel_rfl) rfl rfl rfl (fun _ => (Ev.cutStr (i := 2 + 3 * i) (j := 5 + 3 * i) rfl rfl Try.underlying9 rfl rfl (by omega) (by omega)).conv (congrArg Value.string ((bx_cut (frm inn) (2 + 3 * i) (5 + 3 * i)).trans (by rw [frm_part (by omega), hp])))) ?_
      refine AG.takeW 16 rfl (by kernel_rfl) (by kernel_rfl) rfl rfl rfl (fun _ => Ev.assign rfl rfl) ?_
      refine AG.takeW 17 rfl (by kernel_rfl) (by kernel_rfl) rfl rfl rfl (fun _ => Ev.assign rfl rfl) ?_
      refine AG.done (by kernel_rfl) ?_
      refine QW.sub (S' := [(0, _), (3, _), (4, _), (7, _), (9, _), (10, _), (12, _), (13, _), (53, _)]) ⟨rfl, rfl, rfl, rfl, rfl, rfl, rfl, rfl, rfl, trivial⟩ ?_
      refine QW.then_ ?_
      refine CW.block ?_
      refine CW.seq ?_
      refine CW.region ?_
      refine RG.vl rfl rfl rfl (Ev.move rfl rfl) ?_
      refine RG.vl rfl rfl rfl (Ev.byteAt rfl rfl rfl Try.underlying9 (by omega) ((show _ = some p1 from rfl))) ?_
      refine RG.vl rfl rfl rfl (Ev.eqI rfl rfl rfl) ?_
      refine RG.vl rfl rfl rfl (Ev.move rfl rfl) ?_
      refine RG.split (d := 76) rfl (fun hg13 => ?_) (fun hg13 => ?_)
      · refine RG.pass rfl rfl rfl ?_
        refine RG.pass rfl rfl rfl ?_
        refine RG.pass rfl rfl rfl ?_
        refine RG.vl rfl rfl rfl (Ev.pickT rfl rfl rfl) ?_
        refine RG.vl rfl rfl rfl (Ev.move rfl rfl) ?_
        refine RG.pass rfl rfl rfl ?_
        refine RG.pass rfl rfl rfl ?_
        refine RG.pass rfl rfl rfl ?_
        refine RG.vl rfl rfl rfl (Ev.pickT rfl rfl rfl) ?_
        refine RG.vl rfl rfl rfl (Ev.assign rfl rfl) ?_
        refine RG.done ?_
        refine QW.sub (S' := [(0, _), (3, _), (4, _), (7, _), (9, _), (10, _), (12, _), (13, _), (53, _), (72, _)]) ⟨rfl, rfl, rfl, rfl, rfl, rfl, rfl, rfl, rfl, rfl, trivial⟩ ?_
        refine QW.then_ ?_
        refine CW.condT rfl ?_
        have hun : unc inn i = true := by rw [unc3 hp]; exact decide_eq_true (by first | exact .inl (u63 (by assumption)) | exact .inr (.inl (u63 (by assumption))) | exact .inr (.inr (u63 (by assumption))))
        have hnr : nrB (wd c) inn i = false := by unfold nrB; rw [hun]; simp
        rw [hun, if_pos rfl] at hte
        rw [hnr, if_neg (by decide)] at htn
        refine CW.region ?_
        refine RG.vl rfl rfl rfl (Ev.move rfl rfl) ?_
        refine RG.vl rfl rfl rfl (Ev.addI rfl rfl rfl (by omega)) ?_
        refine RG.vl rfl rfl rfl (Ev.assign rfl rfl) ?_
        refine RG.done ?_
        refine QW.blockN ?_
        refine QW.blockN ?_
        refine QW.then_ ?_
        refine CW.region ?_
        refine RG.vl rfl rfl rfl (Ev.addI rfl rfl rfl (by omega)) ?_
        refine RG.vl rfl rfl rfl (Ev.move rfl rfl) ?_
        refine RG.done ?_
        refine QW.round1 (i + 1) ⟨rfl, congrArg (fun x => some (Value.int .i64 x)) (by omega), congrArg (fun x => some (Value.int .i64 x)) (by omega), trivial⟩ ⟨rfl, rfl, rfl, rfl, trivial⟩ ⟨by omega, hxwl9⟩ (by omega)
      · refine RG.vl rfl rfl rfl (Ev.move rfl rfl) ?_
        refine RG.vl rfl rfl rfl (Ev.byteAt rfl rfl rfl Try.underlying9 (by omega) ((show _ = some p2 from rfl))) ?_
        refine RG.vl rfl rfl rfl (Ev.eqI rfl rfl rfl) ?_
        refine RG.vl rfl rfl rfl (Ev.pickF rfl rfl rfl) ?_
        refine RG.vl rfl rfl rfl (Ev.move rfl rfl) ?_
        refine RG.split (d := 81) rfl (fun hg14 => ?_) (fun hg14 => ?_)
        · refine RG.pass rfl rfl rfl ?_
          refine RG.pass rfl rfl rfl ?_
          refine RG.pass rfl rfl rfl ?_
          refine RG.vl rfl rfl rfl (Ev.pickT rfl rfl rfl) ?_
          refine RG.vl rfl rfl rfl (Ev.assign rfl rfl) ?_
          refine RG.done ?_
          refine QW.sub (S' := [(0, _), (3, _), (4, _), (7, _), (9, _), (10, _), (12, _), (13, _), (53, _), (72, _)]) ⟨rfl, rfl, rfl, rfl, rfl, rfl, rfl, rfl, rfl, rfl, trivial⟩ ?_
          refine QW.then_ ?_
          refine CW.condT rfl ?_
          have hun : unc inn i = true := by rw [unc3 hp]; exact decide_eq_true (by first | exact .inl (u63 (by assumption)) | exact .inr (.inl (u63 (by assumption))) | exact .inr (.inr (u63 (by assumption))))
          have hnr : nrB (wd c) inn i = false := by unfold nrB; rw [hun]; simp
          rw [hun, if_pos rfl] at hte
          rw [hnr, if_neg (by decide)] at htn
          refine CW.region ?_
          refine RG.vl rfl rfl rfl (Ev.move rfl rfl) ?_
          refine RG.vl rfl rfl rfl (Ev.addI rfl rfl rfl (by omega)) ?_
          refine RG.vl rfl rfl rfl (Ev.assign rfl rfl) ?_
          refine RG.done ?_
          refine QW.blockN ?_
          refine QW.blockN ?_
          refine QW.then_ ?_
          refine CW.region ?_
          refine RG.vl rfl rfl rfl (Ev.addI rfl rfl rfl (by omega)) ?_
          refine RG.vl rfl rfl rfl (Ev.move rfl rfl) ?_
          refine RG.done ?_
          refine QW.round1 (i + 1) ⟨rfl, congrArg (fun x => some (Value.int .i64 x)) (by omega), congrArg (fun x => some (Value.int .i64 x)) (by omega), trivial⟩ ⟨rfl, rfl, rfl, rfl, trivial⟩ ⟨by omega, hxwl9⟩ (by omega)
        · refine RG.vl rfl rfl rfl (Ev.move rfl rfl) ?_
          refine RG.vl rfl rfl rfl (Ev.byteAt rfl rfl rfl Try.underlying9 (by omega) ((show _ = some p3 from rfl))) ?_
          refine RG.vl rfl rfl rfl (Ev.eqI rfl rfl rfl) ?_
          refine RG.vl rfl rfl rfl (Ev.pickF rfl rfl rfl) ?_
          refine RG.vl rfl rfl rfl (Ev.assign rfl rfl) ?_
          refine RG.done ?_
          refine QW.sub (S' := [(0, _), (3, _), (4, _), (7, _), (9, _), (10, _), (12, _), (13, _), (53, _), (72, _)]) ⟨rfl, rfl, rfl, rfl, rfl, rfl, rfl, rfl, rfl, rfl, trivial⟩ ?_
          refine QW.then_ ?_
          refine CW.condP rfl (fun hc15 => ?_) (fun hc15 => ?_)
          · have hun : unc inn i = true := by rw [unc3 hp]; exact decide_eq_true (by first | exact .inl (u63 (by assumption)) | exact .inr (.inl (u63 (by assumption))) | exact .inr (.inr (u63 (by assumption))))
            have hnr : nrB (wd c) inn i = false := by unfold nrB; rw [hun]; simp
            rw [hun, if_pos rfl] at hte
            rw [hnr, if_neg (by decide)] at htn
            refine CW.region ?_
            refine RG.vl rfl rfl rfl (Ev.move rfl rfl) ?_
            refine RG.vl rfl rfl rfl (Ev.addI rfl rfl rfl (by omega)) ?_
            refine RG.vl rfl rfl rfl (Ev.assign rfl rfl) ?_
            refine RG.done ?_
            refine QW.blockN ?_
            refine QW.blockN ?_
            refine QW.then_ ?_
            refine CW.region ?_
            refine RG.vl rfl rfl rfl (Ev.addI rfl rfl rfl (by omega)) ?_
            refine RG.vl rfl rfl rfl (Ev.move rfl rfl) ?_
            refine RG.done ?_
            refine QW.round1 (i + 1) ⟨rfl, congrArg (fun x => some (Value.int .i64 x)) (by omega), congrArg (fun x => some (Value.int .i64 x)) (by omega), trivial⟩ ⟨rfl, rfl, rfl, rfl, trivial⟩ ⟨by omega, hxwl9⟩ (by omega)
          · refine CW.seq ?_
            have hun : unc inn i = false := by rw [unc3 hp]; exact decide_eq_false (by rintro (h | h | h); exact u63' (by assumption) h; exact u63' (by assumption) h; exact u63' (by assumption) h)
            rw [hun, if_neg (by decide)] at hte
            refine CW.region ?_
            refine RG.vl rfl rfl rfl (Ev.move rfl rfl) ?_
            refine RG.vl rfl rfl rfl (Ev.move rfl rfl) ?_
            refine RG.vl rfl rfl rfl (Ev.neS rfl rfl rfl) ?_
            refine RG.vl rfl rfl rfl (Ev.assign rfl rfl) ?_
            refine RG.done ?_
            refine QW.then_ ?_
            refine CW.condP rfl (fun hc16 => ?_) (fun hc16 => ?_)
            · have hnr : nrB (wd c) inn i = true := by unfold nrB; rw [hun, hp]; simp only [Bool.not_false, Bool.and_true]; exact decide_eq_true (fun e => by first | exact absurd (bx_eq.2 e) (by assumption))
              rw [hnr, if_pos rfl] at htn
              refine CW.region ?_
              refine RG.vl rfl rfl rfl (Ev.move rfl rfl) ?_
              refine RG.vl rfl rfl rfl (Ev.addI rfl rfl rfl (by omega)) ?_
              refine RG.vl rfl rfl rfl (Ev.assign rfl rfl) ?_
              refine RG.done ?_
              refine QW.blockN ?_
              refine QW.blockN ?_
              refine QW.then_ ?_
              refine CW.region ?_
              refine RG.vl rfl rfl rfl (Ev.addI rfl rfl rfl (by omega)) ?_
              refine RG.vl rfl rfl rfl (Ev.move rfl rfl) ?_
              refine RG.done ?_
              refine QW.round1 (i + 1) ⟨rfl, congrArg (fun x => some (Value.int .i64 x)) (by omega), congrArg (fun x => some (Value.int .i64 x)) (by omega), trivial⟩ ⟨rfl, rfl, rfl, rfl, trivial⟩ ⟨by omega, hxwl9⟩ (by omega)
            · refine CW.skip ?_
              refine QW.blockN ?_
              refine QW.blockN ?_
              refine QW.then_ ?_
              have hnr : nrB (wd c) inn i = false := by unfold nrB; rw [hun, hp]; simp only [Bool.not_false, Bool.and_true]; exact decide_eq_false (fun h => h (bx_eq.1 (Decidable.not_not.1 (by assumption))))
              rw [hnr, if_neg (by decide)] at htn
              refine CW.region ?_
              refine RG.vl rfl rfl rfl (Ev.addI rfl rfl rfl (by omega)) ?_
              refine RG.vl rfl rfl rfl (Ev.move rfl rfl) ?_
              refine RG.done ?_
              refine QW.round1 (i + 1) ⟨rfl, congrArg (fun x => some (Value.int .i64 x)) (by omega), congrArg (fun x => some (Value.int .i64 x)) (by omega), trivial⟩ ⟨rfl, rfl, rfl, rfl, trivial⟩ ⟨by omega, hxwl9⟩ (by omega)
    · refine CW.exit ?_
      refine QW.thenExit ?_
      refine QW.thenExit ?_
      refine QW.blockHit ?_
      refine QW.then_ ?_
      refine CW.seq ?_
      obtain rfl : i = 20 := by omega
      have hend : ((List.range 20).filter (nrB (wd c) inn)).length = es.length := by rw [hes, diffs_nr hi60 hia hc hce]
      have hend2 : (erasL inn 20).length = er.length := by rw [her]
      refine CW.region ?_
      refine RG.vl rfl rfl rfl (Ev.move rfl rfl) ?_
      refine RG.vl rfl rfl rfl (Ev.mulI rfl rfl rfl (by omega)) ?_
      refine RG.vl rfl rfl rfl (Ev.move rfl rfl) ?_
      refine RG.vl rfl rfl rfl (Ev.addI rfl rfl rfl (by omega)) ?_
      refine RG.vl rfl rfl rfl (Ev.isT (Ev.leq rfl rfl rfl) (by omega)) ?_
      refine RG.vl rfl rfl rfl (Ev.move rfl rfl) ?_
      refine RG.vl rfl rfl rfl (Ev.move rfl rfl) ?_
      refine RG.vl rfl rfl rfl (Ev.fld rfl rfl fld_43_2) ?_
      refine RG.vl rfl rfl rfl (Ev.ldAt rfl rfl Try.underlying41 rfl ((hb1.ext hxwl9).cells) (rfl)) ?_
      refine RG.vl rfl rfl rfl (Ev.lenSlice rfl rfl rfl Try.underlying41) ?_
      refine RG.vl rfl rfl rfl (Ev.isT (Ev.eqI rfl rfl rfl) (by omega)) ?_
      refine RG.vl rfl rfl rfl (Ev.pickT rfl rfl rfl) ?_
      refine RG.vl rfl rfl rfl (Ev.move rfl rfl) ?_
      refine RG.vl rfl rfl rfl (Ev.move rfl rfl) ?_
      refine RG.vl rfl rfl rfl (Ev.fld rfl rfl fld_43_3) ?_
      refine RG.vl rfl rfl rfl (Ev.ldAt rfl rfl Try.underlying41 rfl ((hb1.ext hxwl9).cells) (rfl)) ?_
      refine RG.vl rfl rfl rfl (Ev.lenSlice rfl rfl rfl Try.underlying41) ?_
      refine RG.vl rfl rfl rfl (Ev.isT (Ev.eqI rfl rfl rfl) (by omega)) ?_
      refine RG.vl rfl rfl rfl (Ev.pickT rfl rfl rfl) ?_
      refine RG.vl rfl rfl rfl (Ev.assign rfl rfl) ?_
      refine RG.done ?_
      refine QW.sub (S' := [(4, _)]) ⟨rfl, trivial⟩ ?_
      refine QW.then_ ?_
      refine CW.ret ?_
      refine QW.ret1 rfl rfl ?_
      have hB := (Ex.tr hR7 hxwl9)
      exact ⟨rfl, hB⟩
  | true =>
    refine CW.region ?_
    refine RG.vl rfl rfl rfl (Ev.fld rfl rfl fld_43_1) ?_
    refine RG.vl rfl rfl rfl (Ev.ldAt rfl rfl Try.underlying4 rfl (hb1.cells) (rfl)) ?_
    refine RG.done ?_
    refine QW.then_ ?_
    refine CW.condT rfl ?_
    refine CW.seq ?_
    refine CW.region ?_
    refine RG.vl rfl rfl rfl (Ev.move rfl rfl) ?_
    refine RG.call rfl rfl rfl rfl rfl rfl rfl en_15 (turnE_at _ (hg1 rfl)) ?_
    rintro _ w17 ⟨rfl, hx17⟩
    replace hE3 := Ex.tr hE3 hx17
    have hE18 := hx17
    refine RG.vl rfl rfl rfl (Ev.move rfl rfl) ?_
    refine RG.vl rfl rfl rfl (Ev.extract rfl rfl rfl) ?_
    refine RG.vl rfl rfl rfl (Ev.extract rfl rfl rfl) ?_
    refine RG.vl rfl rfl rfl (Ev.assign rfl rfl) ?_
    refine RG.vl rfl rfl rfl (Ev.assign rfl rfl) ?_
    refine RG.done ?_
    refine QW.then_ ?_
    refine CW.seq ?_
    refine CW.seq ?_
    refine CW.region ?_
    refine RG.vl rfl rfl rfl (Ev.move rfl rfl) ?_
    refine RG.vl rfl rfl rfl (Ev.isF (Ev.neI rfl rfl rfl) (fun h => h rfl)) ?_
    refine RG.done ?_
    refine QW.then_ ?_
    refine CW.condF rfl ?_
    refine CW.skip ?_
    refine QW.then_ ?_
    refine CW.region ?_
    refine RG.vl rfl rfl rfl (Ev.move rfl rfl) ?_
    refine RG.vl rfl rfl rfl (Ev.assign rfl rfl) ?_
    refine RG.done ?_
    refine QW.sub (S' := [(0, _), (3, _), (4, _)]) ⟨rfl, rfl, rfl, trivial⟩ ?_
    refine QW.then_ ?_
    refine CW.seq ?_
    refine CW.region ?_
    refine RG.vl rfl rfl rfl (Ev.fld rfl rfl fld_43_0) ?_
    refine RG.vl rfl rfl rfl (Ev.ldAt rfl rfl Try.underlying9 rfl ((hb1.ext hE18).cells) (rfl)) ?_
    refine RG.call rfl rfl rfl rfl rfl rfl rfl en_13 (wr_is _ hw htd (by omega)) ?_
    rintro _ w19 ⟨rfl, hx19⟩
    replace hE3 := Ex.tr hE3 hx19
    replace hE18 := Ex.tr hE18 hx19
    have hE20 := hx19
    refine RG.vl rfl rfl rfl (Ev.move rfl rfl) ?_
    refine RG.vl rfl rfl rfl (Ev.extract rfl rfl rfl) ?_
    refine RG.vl rfl rfl rfl (Ev.extract rfl rfl rfl) ?_
    refine RG.vl rfl rfl rfl (Ev.assign rfl rfl) ?_
    refine RG.vl rfl rfl rfl (Ev.assign rfl rfl) ?_
    refine RG.done ?_
    refine QW.then_ ?_
    refine CW.seq ?_
    refine CW.seq ?_
    refine CW.draw [] (.ex) 23 rfl mixed (fun wd21 hxwd21 => ?_)
    replace hE3 := Ex.tr hE3 hxwd21
    replace hE18 := Ex.tr hE18 hxwd21
    replace hE20 := Ex.tr hE20 hxwd21
    refine AG.takeW 0 rfl (by kernel_rfl) (by kernel_rfl) rfl rfl rfl (fun _ => Ev.move rfl rfl) ?_
    refine AG.takeW 1 rfl (by kernel_rfl) (by kernel_rfl) rfl rfl rfl (fun _ => Ev.isF (Ev.neI rfl rfl rfl) (fun h => h rfl)) ?_
    refine AG.takeW 2 rfl (by kernel_rfl) (by kernel_rfl) rfl rfl rfl (fun _ => Ev.move rfl rfl) ?_
    refine AG.takeW 3 rfl (by kernel_rfl) (by kernel_rfl) rfl rfl rfl (fun _ => Ev.move rfl rfl) ?_
    refine AG.takeW 4 rfl (by kernel_rfl) (by kernel_rfl) rfl rfl rfl (fun _ => Ev.lenStr rfl rfl rfl Try.underlying9) ?_
    refine AG.takeW 5 rfl (by kernel_rfl) (by kernel_rfl) rfl rfl rfl (fun _ => Ev.move rfl rfl) ?_
    refine AG.takeW 6 rfl (by kernel_rfl) (by kernel_rfl) rfl rfl rfl (fun _ => Ev.lenStr rfl rfl rfl Try.underlying9) ?_
    refine AG.takeW 7 rfl (by kernel_rfl) (by kernel_rfl) rfl rfl rfl (fun _ => Ev.isF (Ev.neI rfl rfl rfl) (fun h => h (by omega))) ?_
    refine AG.takeW 8 rfl (by kernel_rfl) (by kernel_rfl) rfl rfl rfl (fun _ => Ev.pickF rfl rfl rfl) ?_
    refine AG.takeW 9 rfl (by kernel_rfl) (by kernel_rfl) rfl rfl rfl (fun _ => Ev.move rfl rfl) ?_
    refine AG.takeW 10 rfl (by kernel_rfl) (by kernel_rfl) rfl rfl rfl (fun _ => Ev.move rfl rfl) ?_
    refine AG.takeW 11 rfl (by kernel_rfl) (by kernel_rfl) rfl rfl rfl (fun _ => (Ev.cutStr (i := 0) (j := 2) rfl rfl Try.underlying9 rfl rfl (by omega) (by omega)).conv (congrArg Value.string ((bx_cut (frm (wd c)) 0 2).trans (show _ = (⟨[65, 84].toArray⟩ : ByteArray) from rfl)))) ?_
    refine AG.takeW 12 rfl (by kernel_rfl) (by kernel_rfl) rfl rfl rfl (fun _ => Ev.move rfl rfl) ?_
    refine AG.takeW 13 rfl (by kernel_rfl) (by kernel_rfl) rfl rfl rfl (fun _ => (Ev.cutStr (i := 0) (j := 2) rfl rfl Try.underlying9 rfl rfl (by omega) (by omega)).conv (congrArg Value.string ((bx_cut (frm inn) 0 2).trans (show _ = (⟨[65, 84].toArray⟩ : ByteArray) from rfl)))) ?_
    refine AG.takeW 14 rfl (by kernel_rfl) (by kernel_rfl) rfl rfl rfl (fun _ => Ev.isF (Ev.neS rfl rfl rfl) (fun h => h rfl)) ?_
    refine AG.takeW 15 rfl (by kernel_rfl) (by kernel_rfl) rfl rfl rfl (fun _ => Ev.pickF rfl rfl rfl) ?_
    refine AG.takeW 16 rfl (by kernel_rfl) (by kernel_rfl) rfl rfl rfl (fun _ => Ev.move rfl rfl) ?_
    refine AG.takeW 17 rfl (by kernel_rfl) (by kernel_rfl) rfl rfl rfl (fun _ => Ev.move rfl rfl) ?_
    refine AG.takeW 18 rfl (by kernel_rfl) (by kernel_rfl) rfl rfl rfl (fun _ => (Ev.cutStr (i := 62) rfl rfl Try.underlying9 rfl rfl (by omega) (Nat.le_refl _)).conv (congrArg Value.string ((bx_cut (frm (wd c)) 62 _).trans (by rw [hsx, hfx, hwl, hc, frm_end (by omega)])))) ?_
    refine AG.takeW 19 rfl (by kernel_rfl) (by kernel_rfl) rfl rfl rfl (fun _ => Ev.move rfl rfl) ?_
    refine AG.takeW 20 rfl (by kernel_rfl) (by kernel_rfl) rfl rfl rfl (fun _ => (Ev.cutStr (i := 62) rfl rfl Try.underlying9 rfl rfl (by omega) (Nat.le_refl _)).conv (congrArg Value.string ((bx_cut (frm inn) 62 _).trans (by rw [hsl, hfl, hi60, frm_end hi60])))) ?_
    refine AG.takeW 21 rfl (by kernel_rfl) (by kernel_rfl) rfl rfl rfl (fun _ => Ev.isF (Ev.neS rfl rfl rfl) (fun h => h rfl)) ?_
    refine AG.takeW 22 rfl (by kernel_rfl) (by kernel_rfl) rfl rfl rfl (fun _ => Ev.pickF rfl rfl rfl) ?_
    refine AG.done (by kernel_rfl) ?_
    refine QW.sub (S' := [(0, _), (3, _), (4, _), (7, _), (52, _)]) ⟨rfl, rfl, rfl, rfl, rfl, trivial⟩ ?_
    refine QW.then_ ?_
    refine CW.condF rfl ?_
    refine CW.skip ?_
    refine QW.then_ ?_
    refine CW.seq ?_
    refine CW.region ?_
    refine RG.vl rfl rfl rfl (Ev.assign rfl rfl) ?_
    refine RG.vl rfl rfl rfl (Ev.assign rfl rfl) ?_
    refine RG.done ?_
    refine QW.then_ ?_
    refine CW.seq ?_
    refine CW.seq ?_
    refine CW.region ?_
    refine RG.vl rfl rfl rfl (Ev.move rfl rfl) ?_
    refine RG.done ?_
    refine QW.then_ ?_
    refine CW.block ?_
    replace hb1 := (hb1.ext hE18)
    have hR22 := (Ex.tr hB0 hE3)
    have hR23 := hE18
    have hR24 := hE20
    refine CW.loop1 [(0, _), (3, _), (4, _), (7, _)] ⟨rfl, rfl, rfl, rfl, trivial⟩ (fun (i : Nat) => [(53, .int .i64 (i : Int)), (9, .int .i64 ((((List.range i).filter (nrB (wd c) inn)).length : Nat) : Int)), (10, .int .i64 (((erasL inn i).length : Nat) : Int))]) (fun i w' => (i ≤ 20) ∧ Ex wd21 w') (fun i => 20 - i) (0) ⟨rfl, rfl, rfl, trivial⟩ ⟨Nat.zero_le _, (Ex.rfl_ _)⟩ ?_
    rintro i wl25 ⟨hi, hxwl25⟩
    refine CW.sub (S' := [(53, _), (9, _), (10, _), (0, _), (3, _), (4, _), (7, _)]) ⟨rfl, rfl, rfl, rfl, rfl, rfl, rfl, trivial⟩ ?_
    refine CW.seq ?_
    refine CW.region ?_
    refine RG.vl rfl rfl rfl (Ev.lss rfl rfl rfl) ?_
    refine RG.done ?_
    refine QW.then_ ?_
    refine CW.seq ?_
    refine CW.condP rfl (fun hc26 => ?_) (fun hc26 => ?_)
    · refine CW.skip ?_
      refine QW.then_ ?_
      refine CW.seq ?_
      refine CW.block ?_
      refine CW.seq ?_
      refine CW.region ?_
      refine RG.vl rfl rfl rfl (Ev.move rfl rfl) ?_
      refine RG.vl rfl rfl rfl (Ev.assign rfl rfl) ?_
      refine RG.done ?_
      refine QW.then_ ?_
      refine CW.seq ?_
      have hpq := part_eq (T := inn) (i := i) (by omega)
      obtain ⟨p1, p2, p3, hp, _⟩ := hpq
      have hpx := part_eq (T := wd c) (i := i) (by omega)
      have htn := told_nr (wd c) inn i
      have hte := told_er inn i
      have hel := eras_len inn i
      have hnl := List.length_filter_le (nrB (wd c) inn) (List.range i)
      rw [List.length_range] at hnl
      refine CW.draw [] (.ex) 18 rfl mixed (fun wd27 hxwd27 => ?_)
      replace hxwl25 := Ex.tr hxwl25 hxwd27
      have hE28 := hxwd27
      refine AG.takeW 0 rfl (by kernel_rfl) (by kernel_rfl) rfl rfl rfl (fun _ => Ev.move rfl rfl) ?_
      refine AG.takeW 1 rfl (by kernel_rfl) (by kernel_rfl) rfl rfl rfl (fun _ => Ev.move rfl rfl) ?_
      refine AG.takeW 2 rfl (by kernel_rfl) (by kernel_rfl) rfl rfl rfl (fun _ => (Ev.mulI rfl rfl rfl (by omega)).conv (congrArg (Value.int .i64) (show (3 : Int) * (i : Int) = ((3 * i : Nat) : Int) by omega))) ?_
      refine AG.takeW 3 rfl (by kernel_rfl) (by kernel_rfl) rfl rfl rfl (fun _ => (Ev.addI rfl rfl rfl (by omega)).conv (congrArg (Value.int .i64) (show (2 : Int) + ((3 * i : Nat) : Int) = ((2 + 3 * i : Nat) : Int) by omega))) ?_
      refine AG.takeW 4 rfl (by kernel_rfl) (by kernel_rfl) rfl rfl rfl (fun _ => Ev.move rfl rfl) ?_
      refine AG.takeW 5 rfl (by kernel_rfl) (by kernel_rfl) rfl rfl rfl (fun _ => (Ev.mulI rfl rfl rfl (by omega)).conv (congrArg (Value.int .i64) (show (3 : Int) * (i : Int) = ((3 * i : Nat) : Int) by omega))) ?_
      refine AG.takeW 6 rfl (by kernel_rfl) (by kernel_rfl) rfl rfl rfl (fun _ => (Ev.addI rfl rfl rfl (by omega)).conv (congrArg (Value.int .i64) (show (5 : Int) + ((3 * i : Nat) : Int) = ((5 + 3 * i : Nat) : Int) by omega))) ?_
      refine AG.takeW 7 rfl (by kernel_rfl) (by kernel_rfl) rfl rfl rfl (fun _ => (Ev.cutStr (i := 2 + 3 * i) (j := 5 + 3 * i) rfl rfl Try.underlying9 rfl rfl (by omega) (by omega)).conv (congrArg Value.string ((bx_cut (frm (wd c)) (2 + 3 * i) (5 + 3 * i)).trans (by rw [frm_part (by omega)])))) ?_
      refine AG.takeW 8 rfl (by kernel_rfl) (by kernel_rfl) rfl rfl rfl (fun _ => Ev.move rfl rfl) ?_
      refine AG.takeW 9 rfl (by kernel_rfl) (by kernel_rfl) rfl rfl rfl (fun _ => Ev.move rfl rfl) ?_
      refine AG.takeW 10 rfl (by kernel_rfl) (by kernel_rfl) rfl rfl rfl (fun _ => (Ev.mulI rfl rfl rfl (by omega)).conv (congrArg (Value.int .i64) (show (3 : Int) * (i : Int) = ((3 * i : Nat) : Int) by omega))) ?_
      refine AG.takeW 11 rfl (by kernel_rfl) (by kernel_rfl) rfl rfl rfl (fun _ => (Ev.addI rfl rfl rfl (by omega)).conv (congrArg (Value.int .i64) (show (2 : Int) + ((3 * i : Nat) : Int) = ((2 + 3 * i : Nat) : Int) by omega))) ?_
      refine AG.takeW 12 rfl (by kernel_rfl) (by kernel_rfl) rfl rfl rfl (fun _ => Ev.move rfl rfl) ?_
      refine AG.takeW 13 rfl (by kernel_rfl) (by kernel_rfl) rfl rfl rfl (fun _ => (Ev.mulI rfl rfl rfl (by omega)).conv (congrArg (Value.int .i64) (show (3 : Int) * (i : Int) = ((3 * i : Nat) : Int) by omega))) ?_
      refine AG.takeW 14 rfl (by kernel_rfl) (by kernel_rfl) rfl rfl rfl (fun _ => (Ev.addI rfl rfl rfl (by omega)).conv (congrArg (Value.int .i64) (show (5 : Int) + ((3 * i : Nat) : Int) = ((5 + 3 * i : Nat) : Int) by omega))) ?_
      refine AG.takeW 15 rfl (by kernel_rfl) (by kernel_rfl) rfl rfl rfl (fun _ => (Ev.cutStr (i := 2 + 3 * i) (j := 5 + 3 * i) rfl rfl Try.underlying9 rfl rfl (by omega) (by omega)).conv (congrArg Value.string ((bx_cut (frm inn) (2 + 3 * i) (5 + 3 * i)).trans (by rw [frm_part (by omega), hp])))) ?_
      refine AG.takeW 16 rfl (by kernel_rfl) (by kernel_rfl) rfl rfl rfl (fun _ => Ev.assign rfl rfl) ?_
      refine AG.takeW 17 rfl (by kernel_rfl) (by kernel_rfl) rfl rfl rfl (fun _ => Ev.assign rfl rfl) ?_
      refine AG.done (by kernel_rfl) ?_
      refine QW.sub (S' := [(0, _), (3, _), (4, _), (7, _), (9, _), (10, _), (12, _), (13, _), (53, _)]) ⟨rfl, rfl, rfl, rfl, rfl, rfl, rfl, rfl, rfl, trivial⟩ ?_
      refine QW.then_ ?_
      refine CW.block ?_
      refine CW.seq ?_
      refine CW.region ?_
      refine RG.vl rfl rfl rfl (Ev.move rfl rfl) ?_
      refine RG.vl rfl rfl rfl (Ev.byteAt rfl rfl rfl Try.underlying9 (by omega) ((show _ = some p1 from rfl))) ?_
      refine RG.vl rfl rfl rfl (Ev.eqI rfl rfl rfl) ?_
      refine RG.vl rfl rfl rfl (Ev.move rfl rfl) ?_
      refine RG.split (d := 76) rfl (fun hg29 => ?_) (fun hg29 => ?_)
      · refine RG.pass rfl rfl rfl ?_
        refine RG.pass rfl rfl rfl ?_
        refine RG.pass rfl rfl rfl ?_
        refine RG.vl rfl rfl rfl (Ev.pickT rfl rfl rfl) ?_
        refine RG.vl rfl rfl rfl (Ev.move rfl rfl) ?_
        refine RG.pass rfl rfl rfl ?_
        refine RG.pass rfl rfl rfl ?_
        refine RG.pass rfl rfl rfl ?_
        refine RG.vl rfl rfl rfl (Ev.pickT rfl rfl rfl) ?_
        refine RG.vl rfl rfl rfl (Ev.assign rfl rfl) ?_
        refine RG.done ?_
        refine QW.sub (S' := [(0, _), (3, _), (4, _), (7, _), (9, _), (10, _), (12, _), (13, _), (53, _), (72, _)]) ⟨rfl, rfl, rfl, rfl, rfl, rfl, rfl, rfl, rfl, rfl, trivial⟩ ?_
        refine QW.then_ ?_
        refine CW.condT rfl ?_
        have hun : unc inn i = true := by rw [unc3 hp]; exact decide_eq_true (by first | exact .inl (u63 (by assumption)) | exact .inr (.inl (u63 (by assumption))) | exact .inr (.inr (u63 (by assumption))))
        have hnr : nrB (wd c) inn i = false := by unfold nrB; rw [hun]; simp
        rw [hun, if_pos rfl] at hte
        rw [hnr, if_neg (by decide)] at htn
        refine CW.region ?_
        refine RG.vl rfl rfl rfl (Ev.move rfl rfl) ?_
        refine RG.vl rfl rfl rfl (Ev.addI rfl rfl rfl (by omega)) ?_
        refine RG.vl rfl rfl rfl (Ev.assign rfl rfl) ?_
        refine RG.done ?_
        refine QW.blockN ?_
        refine QW.blockN ?_
        refine QW.then_ ?_
        refine CW.region ?_
        refine RG.vl rfl rfl rfl (Ev.addI rfl rfl rfl (by omega)) ?_
        refine RG.vl rfl rfl rfl (Ev.move rfl rfl) ?_
        refine RG.done ?_
        refine QW.round1 (i + 1) ⟨rfl, congrArg (fun x => some (Value.int .i64 x)) (by omega), congrArg (fun x => some (Value.int .i64 x)) (by omega), trivial⟩ ⟨rfl, rfl, rfl, rfl, trivial⟩ ⟨by omega, hxwl25⟩ (by omega)
      · refine RG.vl rfl rfl rfl (Ev.move rfl rfl) ?_
        refine RG.vl rfl rfl rfl (Ev.byteAt rfl rfl rfl Try.underlying9 (by omega) ((show _ = some p2 from rfl))) ?_
        refine RG.vl rfl rfl rfl (Ev.eqI rfl rfl rfl) ?_
        refine RG.vl rfl rfl rfl (Ev.pickF rfl rfl rfl) ?_
        refine RG.vl rfl rfl rfl (Ev.move rfl rfl) ?_
        refine RG.split (d := 81) rfl (fun hg30 => ?_) (fun hg30 => ?_)
        · refine RG.pass rfl rfl rfl ?_
          refine RG.pass rfl rfl rfl ?_
          refine RG.pass rfl rfl rfl ?_
          refine RG.vl rfl rfl rfl (Ev.pickT rfl rfl rfl) ?_
          refine RG.vl rfl rfl rfl (Ev.assign rfl rfl) ?_
          refine RG.done ?_
          refine QW.sub (S' := [(0, _), (3, _), (4, _), (7, _), (9, _), (10, _), (12, _), (13, _), (53, _), (72, _)]) ⟨rfl, rfl, rfl, rfl, rfl, rfl, rfl, rfl, rfl, rfl, trivial⟩ ?_
          refine QW.then_ ?_
          refine CW.condT rfl ?_
          have hun : unc inn i = true := by rw [unc3 hp]; exact decide_eq_true (by first | exact .inl (u63 (by assumption)) | exact .inr (.inl (u63 (by assumption))) | exact .inr (.inr (u63 (by assumption))))
          have hnr : nrB (wd c) inn i = false := by unfold nrB; rw [hun]; simp
          rw [hun, if_pos rfl] at hte
          rw [hnr, if_neg (by decide)] at htn
          refine CW.region ?_
          refine RG.vl rfl rfl rfl (Ev.move rfl rfl) ?_
          refine RG.vl rfl rfl rfl (Ev.addI rfl rfl rfl (by omega)) ?_
          refine RG.vl rfl rfl rfl (Ev.assign rfl rfl) ?_
          refine RG.done ?_
          refine QW.blockN ?_
          refine QW.blockN ?_
          refine QW.then_ ?_
          refine CW.region ?_
          refine RG.vl rfl rfl rfl (Ev.addI rfl rfl rfl (by omega)) ?_
          refine RG.vl rfl rfl rfl (Ev.move rfl rfl) ?_
          refine RG.done ?_
          refine QW.round1 (i + 1) ⟨rfl, congrArg (fun x => some (Value.int .i64 x)) (by omega), congrArg (fun x => some (Value.int .i64 x)) (by omega), trivial⟩ ⟨rfl, rfl, rfl, rfl, trivial⟩ ⟨by omega, hxwl25⟩ (by omega)
        · refine RG.vl rfl rfl rfl (Ev.move rfl rfl) ?_
          refine RG.vl rfl rfl rfl (Ev.byteAt rfl rfl rfl Try.underlying9 (by omega) ((show _ = some p3 from rfl))) ?_
          refine RG.vl rfl rfl rfl (Ev.eqI rfl rfl rfl) ?_
          refine RG.vl rfl rfl rfl (Ev.pickF rfl rfl rfl) ?_
          refine RG.vl rfl rfl rfl (Ev.assign rfl rfl) ?_
          refine RG.done ?_
          refine QW.sub (S' := [(0, _), (3, _), (4, _), (7, _), (9, _), (10, _), (12, _), (13, _), (53, _), (72, _)]) ⟨rfl, rfl, rfl, rfl, rfl, rfl, rfl, rfl, rfl, rfl, trivial⟩ ?_
          refine QW.then_ ?_
          refine CW.condP rfl (fun hc31 => ?_) (fun hc31 => ?_)
          · have hun : unc inn i = true := by rw [unc3 hp]; exact decide_eq_true (by first | exact .inl (u63 (by assumption)) | exact .inr (.inl (u63 (by assumption))) | exact .inr (.inr (u63 (by assumption))))
            have hnr : nrB (wd c) inn i = false := by unfold nrB; rw [hun]; simp
            rw [hun, if_pos rfl] at hte
            rw [hnr, if_neg (by decide)] at htn
            refine CW.region ?_
            refine RG.vl rfl rfl rfl (Ev.move rfl rfl) ?_
            refine RG.vl rfl rfl rfl (Ev.addI rfl rfl rfl (by omega)) ?_
            refine RG.vl rfl rfl rfl (Ev.assign rfl rfl) ?_
            refine RG.done ?_
            refine QW.blockN ?_
            refine QW.blockN ?_
            refine QW.then_ ?_
            refine CW.region ?_
            refine RG.vl rfl rfl rfl (Ev.addI rfl rfl rfl (by omega)) ?_
            refine RG.vl rfl rfl rfl (Ev.move rfl rfl) ?_
            refine RG.done ?_
            refine QW.round1 (i + 1) ⟨rfl, congrArg (fun x => some (Value.int .i64 x)) (by omega), congrArg (fun x => some (Value.int .i64 x)) (by omega), trivial⟩ ⟨rfl, rfl, rfl, rfl, trivial⟩ ⟨by omega, hxwl25⟩ (by omega)
          · refine CW.seq ?_
            have hun : unc inn i = false := by rw [unc3 hp]; exact decide_eq_false (by rintro (h | h | h); exact u63' (by assumption) h; exact u63' (by assumption) h; exact u63' (by assumption) h)
            rw [hun, if_neg (by decide)] at hte
            refine CW.region ?_
            refine RG.vl rfl rfl rfl (Ev.move rfl rfl) ?_
            refine RG.vl rfl rfl rfl (Ev.move rfl rfl) ?_
            refine RG.vl rfl rfl rfl (Ev.neS rfl rfl rfl) ?_
            refine RG.vl rfl rfl rfl (Ev.assign rfl rfl) ?_
            refine RG.done ?_
            refine QW.then_ ?_
            refine CW.condP rfl (fun hc32 => ?_) (fun hc32 => ?_)
            · have hnr : nrB (wd c) inn i = true := by unfold nrB; rw [hun, hp]; simp only [Bool.not_false, Bool.and_true]; exact decide_eq_true (fun e => by first | exact absurd (bx_eq.2 e) (by assumption))
              rw [hnr, if_pos rfl] at htn
              refine CW.region ?_
              refine RG.vl rfl rfl rfl (Ev.move rfl rfl) ?_
              refine RG.vl rfl rfl rfl (Ev.addI rfl rfl rfl (by omega)) ?_
              refine RG.vl rfl rfl rfl (Ev.assign rfl rfl) ?_
              refine RG.done ?_
              refine QW.blockN ?_
              refine QW.blockN ?_
              refine QW.then_ ?_
              refine CW.region ?_
              refine RG.vl rfl rfl rfl (Ev.addI rfl rfl rfl (by omega)) ?_
              refine RG.vl rfl rfl rfl (Ev.move rfl rfl) ?_
              refine RG.done ?_
              refine QW.round1 (i + 1) ⟨rfl, congrArg (fun x => some (Value.int .i64 x)) (by omega), congrArg (fun x => some (Value.int .i64 x)) (by omega), trivial⟩ ⟨rfl, rfl, rfl, rfl, trivial⟩ ⟨by omega, hxwl25⟩ (by omega)
            · refine CW.skip ?_
              refine QW.blockN ?_
              refine QW.blockN ?_
              refine QW.then_ ?_
              have hnr : nrB (wd c) inn i = false := by unfold nrB; rw [hun, hp]; simp only [Bool.not_false, Bool.and_true]; exact decide_eq_false (fun h => h (bx_eq.1 (Decidable.not_not.1 (by assumption))))
              rw [hnr, if_neg (by decide)] at htn
              refine CW.region ?_
              refine RG.vl rfl rfl rfl (Ev.addI rfl rfl rfl (by omega)) ?_
              refine RG.vl rfl rfl rfl (Ev.move rfl rfl) ?_
              refine RG.done ?_
              refine QW.round1 (i + 1) ⟨rfl, congrArg (fun x => some (Value.int .i64 x)) (by omega), congrArg (fun x => some (Value.int .i64 x)) (by omega), trivial⟩ ⟨rfl, rfl, rfl, rfl, trivial⟩ ⟨by omega, hxwl25⟩ (by omega)
    · refine CW.exit ?_
      refine QW.thenExit ?_
      refine QW.thenExit ?_
      refine QW.blockHit ?_
      refine QW.then_ ?_
      refine CW.seq ?_
      obtain rfl : i = 20 := by omega
      have hend : ((List.range 20).filter (nrB (wd c) inn)).length = es.length := by rw [hes, diffs_nr hi60 hia hc hce]
      have hend2 : (erasL inn 20).length = er.length := by rw [her]
      refine CW.region ?_
      refine RG.vl rfl rfl rfl (Ev.move rfl rfl) ?_
      refine RG.vl rfl rfl rfl (Ev.mulI rfl rfl rfl (by omega)) ?_
      refine RG.vl rfl rfl rfl (Ev.move rfl rfl) ?_
      refine RG.vl rfl rfl rfl (Ev.addI rfl rfl rfl (by omega)) ?_
      refine RG.vl rfl rfl rfl (Ev.isT (Ev.leq rfl rfl rfl) (by omega)) ?_
      refine RG.vl rfl rfl rfl (Ev.move rfl rfl) ?_
      refine RG.vl rfl rfl rfl (Ev.move rfl rfl) ?_
      refine RG.vl rfl rfl rfl (Ev.fld rfl rfl fld_43_2) ?_
      refine RG.vl rfl rfl rfl (Ev.ldAt rfl rfl Try.underlying41 rfl ((hb1.ext hxwl25).cells) (rfl)) ?_
      refine RG.vl rfl rfl rfl (Ev.lenSlice rfl rfl rfl Try.underlying41) ?_
      refine RG.vl rfl rfl rfl (Ev.isT (Ev.eqI rfl rfl rfl) (by omega)) ?_
      refine RG.vl rfl rfl rfl (Ev.pickT rfl rfl rfl) ?_
      refine RG.vl rfl rfl rfl (Ev.move rfl rfl) ?_
      refine RG.vl rfl rfl rfl (Ev.move rfl rfl) ?_
      refine RG.vl rfl rfl rfl (Ev.fld rfl rfl fld_43_3) ?_
      refine RG.vl rfl rfl rfl (Ev.ldAt rfl rfl Try.underlying41 rfl ((hb1.ext hxwl25).cells) (rfl)) ?_
      refine RG.vl rfl rfl rfl (Ev.lenSlice rfl rfl rfl Try.underlying41) ?_
      refine RG.vl rfl rfl rfl (Ev.isT (Ev.eqI rfl rfl rfl) (by omega)) ?_
      refine RG.vl rfl rfl rfl (Ev.pickT rfl rfl rfl) ?_
      refine RG.vl rfl rfl rfl (Ev.assign rfl rfl) ?_
      refine RG.done ?_
      refine QW.sub (S' := [(4, _)]) ⟨rfl, trivial⟩ ?_
      refine QW.then_ ?_
      refine CW.ret ?_
      refine QW.ret1 rfl rfl ?_
      have hB := (Ex.tr hR22 hxwl25)
      exact ⟨rfl, hB⟩

end Go.Proofs.Ytgjnchjkjdnidaa

/- Bars with hits: what is written, hit, and read. -/
namespace Go.Proofs.Ytgjnchjkjdnidaa
open Go.RowKit
section
variable (w : World)
theorem wrD_ret {t : List UInt8} (he : errW t = 0) (hl : t.length ≤ 1000) : Ret Try.prog 13 [.string ⟨t.toArray⟩] w (fun v w' => ∃ c, IsEnc (b64 (numT t)) c ∧ v = .tuple #[.string ⟨(frm (wd c)).toArray⟩, .int .i64 0] ∧ Ex w w') := by
  refine (bwr_ret t w hl).mono ?_
  rintro v w' ⟨y, rfl, hy, hx⟩
  obtain ⟨c, hc, rfl⟩ := hy.1 he
  exact ⟨c, hc, by rw [he]; rfl, hx⟩
theorem hitF_ret (v0 : Value) (c : List Nat) (hs : List Hit) (hl : RdL w 2 encH v0 hs) (hc : c.length = 20) (hhl : hs.length ≤ 1000) (hb : ∀ p ∈ hs, p.1 < 256 ∧ p.2 < 256) :
    Ret Try.prog 14 [.string ⟨(frm (wd c)).toArray⟩, v0] w (fun v w' => ∃ y z, v = .tuple #[.string ⟨(frm (hitI (wd c) hs)).toArray⟩, y, z] ∧ Own w' w.heap.size 3 1 encZ y ((List.range 20).filter (nrB (wd c) (hitI (wd c) hs))) ∧ Own w' w.heap.size 3 1 encZ z (erasL (hitI (wd c) hs) 20) ∧ Ex w w') := by
  have h60 : (wd c).length = 60 := by rw [wd_len, hc]
  have hO : (hitI (wd c) hs).length = 60 := by rw [hitI_len, h60]
  refine (hit_ret (frm (wd c)) v0 hs w hl (by rw [frm_len, h60]) hhl hb).mono ?_
  rintro v w' ⟨y, z, rfl, hy, hz, hx⟩
  rw [hit_frm hs h60] at hy hz ⊢
  rw [es_nr hO h60] at hy
  rw [er_nr hO] at hz
  exact ⟨y, z, rfl, hy, hz, hx⟩

end
theorem pay_of {t : List UInt8} {c : List Nat} (he : errW t = 0) (hie : IsEnc (b64 (numT t)) c) : PayT (vb 64 0 (c.take 16)) (some t) := by
  obtain ⟨h28, ha⟩ := errW_ok he
  have hp := hie.pre
  rw [b64_len] at hp
  rw [hp, vb_b64 (numT_64 ha h28)]
  exact ⟨ha, rfl⟩
theorem enc_20 {t : List UInt8} {c : List Nat} (hie : IsEnc (b64 (numT t)) c) : Code_ 20 c := by
  have := enc_code hie
  rw [b64_len] at this
  exact this
theorem rd_hit {x O t t' : List UInt8} {c es er : List Nat} {b b' : Bool} {e : Int} (hu : unframeB x = (O, b, 0)) (h64 : x.length = 64) (hO : O.length = 60) (hOa : O.all isL = true) (hie : IsEnc (b64 (numT t)) c) (ht : errW t = 0)
    (h4 : 2 * ((List.range 20).filter (nrB (wd c) O)).length + (erasL O 20).length ≤ 4) (h : RdR x t' b' es er e) : e = 0 ∧ t' = t ∧ b' = b ∧ es = (List.range 20).filter (nrB (wd c) O) ∧ er = erasL O 20 := by
  have hd := diffs_nr (O := O) hO hOa (enc20 hie) hie.el
  have hu1 : (unframeB x).1 = O := by rw [hu]
  have hu2 : (unframeB x).2.1 = b := by rw [hu]
  have := rd_is h64 (by rw [hu]) (enc_20 hie) (by rw [hu1, hd]; exact h4) (pay_of ht hie) h
  rw [hu1, hu2, hd] at this
  exact this
theorem rd_err {x O t' : List UInt8} {es er : List Nat} {b b' : Bool} {e : Int} (hu : unframeB x = (O, b, 0)) (h64 : x.length = 64) (hO : O.length = 60) (hOa : O.all isL = true) (h0 : e ≠ 0) (h : RdR x t' b' es er e) : (e = 190 ∨ e = 220) ∧ t' = [] := by
  have hu1 : (unframeB x).1 = O := by rw [hu]
  cases h with
  | len h => exact absurd h64 h
  | ends _ he => rw [hu] at he; exact absurd rfl he
  | far _ _ hd h0 =>
    rw [hu1] at hd
    rcases dec_near hO hOa hd with ⟨h1, _⟩ | ⟨h1, _⟩
    · exact ⟨.inl h1, rfl⟩
    · exact absurd h1 h0
  | code => exact ⟨.inr rfl, rfl⟩
  | found => exact absurd rfl h0
theorem rd_near {x O t' : List UInt8} {es er : List Nat} {b b' : Bool} (hu : unframeB x = (O, b, 0)) (hO : O.length = 60) (hOa : O.all isL = true) (h : RdR x t' b' es er 0) :
    ∃ c, WrR t' (frm (wd c)) ∧ errW t' = 0 ∧ c.length = 20 ∧ El c ∧ b' = b ∧ es = diffs (nB (symsL O 20)) c (erasL O 20) ∧ er = erasL O 20 ∧ 2 * es.length + er.length ≤ 4 := by
  have hu1 : (unframeB x).1 = O := by rw [hu]
  have hu2 : (unframeB x).2.1 = b := by rw [hu]
  have hn : ∀ {e : Int} {c es : List Nat}, DecP (nB (readB O).1) (castI (readB O).2.1) e c es → e = 0 → Near (nB (symsL O 20)) (erasL O 20) c es := fun hd h0 => by
    rcases dec_near hO hOa hd with ⟨h1, _⟩ | ⟨_, _, h2⟩
    · omega
    · exact h2
  generalize h0 : (0 : Int) = e0 at h
  cases h with
  | len => cases h0
  | ends _ he => rw [hu] at he; exact absurd rfl he
  | far _ _ hd h1 => exact absurd h0.symm h1
  | code => cases h0
  | @found c _ _ _ _ hd hp =>
    rw [hu1] at hd
    have hN := hn hd rfl
    have hl : (nB (symsL O 20)).length = 20 := by rw [nB_len, syms_len]
    have hcode := hN.code
    rw [hl] at hcode
    have hc20 := hcode.len
    have h16 : (c.take 16).length = 16 := by rw [List.length_take]; omega
    have hlt : vb 64 0 (c.take 16) < 64 ^ 16 := by have := vb_lt (b := 64) (by decide) (hcode.el.take 16); rw [h16] at this; exact this
    have hpl := pay_len hlt hp
    have hew := errW_0 hpl hp.1
    have hb : b64 (numT t') = c.take 16 := by rw [hp.2]; exact b64_vb h16 (hcode.el.take 16)
    refine ⟨c, ⟨fun _ => ⟨c, isEnc_of (by rw [b64_len]; exact hcode) (by rw [b64_len, hb]), rfl⟩, fun h => absurd hew h⟩, hew, hc20, hcode.el, hu2, hN.told, by rw [hu1, read_60 hO hOa], ?_⟩
    rw [hu1, read_60 hO hOa]
    exact hN.bound
end Go.Proofs.Ytgjnchjkjdnidaa

/- Bars that are drawn, made longer or shorter, shaken, some of them missing: what is scanned of them. -/
namespace Go.Proofs.Ytgjnchjkjdnidaa
open Go.RowKit
structure Sim (s : Su) (b b' : Br) : Prop where
  pl : plc s b' = plc s b
  le : letter s b' = letter s b
  ib : InB b'
theorem reads_sim {s : Su} {l l' : List Br} {t : List UInt8} (h : Reads s l t) (hl : l'.length = l.length) (hs : ∀ (i : Nat) (b b' : Br), l[i]? = some b → l'[i]? = some b' → Sim s b b') : Reads s l' t := by
  have back : ∀ b' ∈ l', ∃ b ∈ l, Sim s b b' := fun b' hb' => by
    obtain ⟨i, hi⟩ := List.mem_iff_getElem?.1 hb'
    have hlt := (List.getElem?_eq_some_iff.1 hi).1
    exact ⟨l[i]'(by omega), List.getElem_mem _, hs i _ _ (List.getElem?_eq_getElem _) hi⟩
  have hmap : l'.map (plc s) = l.map (plc s) := by
    apply List.ext_getElem?
    intro i
    rw [List.getElem?_map, List.getElem?_map]
    by_cases hi : i < l.length
    · have h1 := List.getElem?_eq_getElem hi
      have h2 := List.getElem?_eq_getElem (show i < l'.length by omega)
      rw [h1, h2, Option.map_some, Option.map_some, (hs i _ _ h1 h2).pl]
    · rw [List.getElem?_eq_none (by omega), List.getElem?_eq_none (by omega)]
  refine ⟨h.tl, by rw [hl]; exact h.ll, fun b' hb' => ?_, ⟨fun b' hb' => ?_, by rw [hmap]; exact h.fit.2⟩, fun b' hb' => ?_, fun j c hj hc => ?_⟩
  · obtain ⟨b, _, hsim⟩ := back b' hb'; exact hsim.ib
  · obtain ⟨b, hb, hsim⟩ := back b' hb'; rw [hsim.pl]; exact h.fit.1 b hb
  · obtain ⟨b, hb, hsim⟩ := back b' hb'
    obtain ⟨j, c, h1, h2, h3⟩ := h.has b hb
    exact ⟨j, c, by rw [hsim.pl, h1], h2, by rw [hsim.le, h3]⟩
  · obtain ⟨b, hb, hp⟩ := h.all j c hj hc
    obtain ⟨i, hi⟩ := List.mem_iff_getElem?.1 hb
    have hlt := (List.getElem?_eq_some_iff.1 hi).1
    exact ⟨l'[i]'(by omega), List.getElem_mem _, by rw [(hs i _ _ hi (List.getElem?_eq_getElem _)).pl, hp]⟩
def LenOk (s : Su) (h h' : Int) : Prop := (h = s.hi → s.hi ≤ h' ∧ h' ≤ s.hi + 128) ∧ (h = s.lo → 0 ≤ h' ∧ h' ≤ s.lo)
structure Len (s : Su) (b b' : Br) : Prop where
  po : b'.po = b.po
  up : LenOk s b.up b'.up
  dn : LenOk s b.dn b'.dn
theorem mkb_halves (s : Su) (c : UInt8) (j : Nat) : ((mkb s c j).up = s.hi ∨ (mkb s c j).up = s.lo) ∧ ((mkb s c j).dn = s.hi ∨ (mkb s c j).dn = s.lo) := by
  unfold mkb; simp only
  constructor <;> split <;> simp
theorem letter_cls (s : Su) (b b' : Br) (h1 : b'.up ≤ s.lo ↔ b.up ≤ s.lo) (h2 : s.hi ≤ b'.up ↔ s.hi ≤ b.up) (h3 : b'.dn ≤ s.lo ↔ b.dn ≤ s.lo) (h4 : s.hi ≤ b'.dn ↔ s.hi ≤ b.dn) : letter s b' = letter s b := by
  unfold letter
  have e1 : (b'.up > s.lo ∧ b'.up < s.hi ∨ b'.dn > s.lo ∧ b'.dn < s.hi) ↔ (b.up > s.lo ∧ b.up < s.hi ∨ b.dn > s.lo ∧ b.dn < s.hi) := by omega
  have e3 : b'.up ≥ s.hi ↔ b.up ≥ s.hi := h2
  have e4 : b'.dn ≥ s.hi ↔ b.dn ≥ s.hi := h4
  simp only [e1, e3, e4]
theorem plc_po (s : Su) (b b' : Br) (h : b'.po = b.po) : plc s b' = plc s b := by unfold plc; rw [h]
theorem len_sim {s : Su} {c : UInt8} {j : Nat} {b' : Br} (hs : Okay s) (hi : s.hi ≤ 1000) (hb : InB (mkb s c j)) (h : Len s (mkb s c j) b') : Sim s (mkb s c j) b' := by
  obtain ⟨a1, a2, a3, a4, a5, a6, a7, a8, a9, a10, a11⟩ := id hs
  obtain ⟨b1, b2, _⟩ := hb
  obtain ⟨h1, h2⟩ := mkb_halves s c j
  obtain ⟨p1, ⟨u1, u2⟩, d1, d2⟩ := h
  refine ⟨plc_po s _ _ p1, letter_cls s _ _ ?_ ?_ ?_ ?_, ?_⟩
  · rcases h1 with h1 | h1
    · have := u1 h1; omega
    · have := u2 h1; omega
  · rcases h1 with h1 | h1
    · have := u1 h1; omega
    · have := u2 h1; omega
  · rcases h2 with h2 | h2
    · have := d1 h2; omega
    · have := d2 h2; omega
  · rcases h2 with h2 | h2
    · have := d1 h2; omega
    · have := d2 h2; omega
  · unfold InB
    rcases h1 with h1 | h1 <;> rcases h2 with h2 | h2
    · have := u1 h1; have := d1 h2; omega
    · have := u1 h1; have := d2 h2; omega
    · have := u2 h1; have := d1 h2; omega
    · have := u2 h1; have := d2 h2; omega
theorem len_room {s : Su} {c : UInt8} {j : Nat} {b' : Br} (hs : Okay s) (hj : (j : Int) < s.pl) (h : Len s (mkb s c j) b') : 0 ≤ roomB s b' := by
  obtain ⟨a1, a2, a3, a4, a5, a6, a7, a8, a9, a10, a11⟩ := id hs
  obtain ⟨h1, h2⟩ := mkb_halves s c j
  obtain ⟨p1, ⟨u1, u2⟩, d1, d2⟩ := h
  unfold roomB
  rw [plc_po s _ _ p1, mkb_plc s c j hs hj]
  simp only
  have hpo : b'.po = s.og + (j : Int) * s.pi := p1
  have hp : 0 ≤ posB s b' j := by unfold posB; rw [hpo]; omega
  have hu : 0 ≤ room s b'.up := by
    unfold room
    rcases h1 with h1 | h1
    · have := u1 h1; rw [if_neg (by omega), if_pos (by omega)]; omega
    · have := u2 h1; rw [if_pos (by omega)]; omega
  have hd : 0 ≤ room s b'.dn := by
    unfold room
    rcases h2 with h2 | h2
    · have := d1 h2; rw [if_neg (by omega), if_pos (by omega)]; omega
    · have := d2 h2; rw [if_pos (by omega)]; omega
  omega
theorem foldl_min_le (f : Br → Int) : ∀ (l : List Br) (m : Int), l.foldl (fun m b => min m (f b)) m ≤ m ∧ ∀ b ∈ l, l.foldl (fun m b => min m (f b)) m ≤ f b
  | [], m => ⟨Int.le_refl _, fun b h => absurd h (by simp)⟩
  | x :: l, m => by
    obtain ⟨h1, h2⟩ := foldl_min_le f l (min m (f x))
    rw [List.foldl_cons]
    refine ⟨by omega, fun b hb => ?_⟩
    rcases List.mem_cons.1 hb with rfl | hb
    · omega
    · exact h2 b hb
theorem foldl_min_ge (f : Br → Int) (k : Int) : ∀ (l : List Br) (m : Int), k ≤ m → (∀ b ∈ l, k ≤ f b) → k ≤ l.foldl (fun m b => min m (f b)) m
  | [], m, h, _ => h
  | x :: l, m, h, hl => by
    rw [List.foldl_cons]
    exact foldl_min_ge f k l _ (by have := hl x (by simp); omega) fun b hb => hl b (by simp [hb])
theorem margin_le {s : Su} {l : List Br} {b : Br} (h : b ∈ l) : marginOf s l ≤ roomB s b := (foldl_min_le (roomB s) l 1048576).2 b h
theorem margin_top (s : Su) (l : List Br) : marginOf s l ≤ 1048576 := (foldl_min_le (roomB s) l 1048576).1
theorem margin_ge {s : Su} {l : List Br} (h : ∀ b ∈ l, 0 ≤ roomB s b) : 0 ≤ marginOf s l := foldl_min_ge (roomB s) 0 l _ (by omega) h
def Shk (m a a' : Int) : Prop := 0 ≤ a' ∧ a' ≤ a + 127 ∧ a - m ≤ a' ∧ a' ≤ a + m
structure ShkB (m : Int) (b b' : Br) : Prop where
  po : Shk m b.po b'.po
  up : Shk m b.up b'.up
  dn : Shk m b.dn b'.dn
theorem room_cls {s : Su} {m a a' : Int} (hs : s.lo < s.hi) (hm : m ≤ room s a) (h : Shk m a a') : (a' ≤ s.lo ↔ a ≤ s.lo) ∧ (s.hi ≤ a' ↔ s.hi ≤ a) := by
  obtain ⟨_, _, h1, h2⟩ := h
  unfold room at hm
  split at hm
  · omega
  · split at hm
    · omega
    · omega
theorem shk_sim {s : Su} {m : Int} {b b' : Br} {k : Int} (hs : Okay s) (hk : plc s b = some k) (hp : b.po ≤ 1000000) (hu : b.up ≤ 10000) (hd : b.dn ≤ 10000) (hm : m ≤ roomB s b) (h : ShkB m b b') : Sim s b b' := by
  obtain ⟨k0, k1⟩ := plc_range s b k hs hk
  have hlo := hs.2.2.2.2.2.2.2.2.2.1
  unfold roomB at hm
  rw [hk] at hm
  simp only at hm
  obtain ⟨c1, c2⟩ := room_cls (a := b.up) (a' := b'.up) hlo (by omega) h.up
  obtain ⟨c3, c4⟩ := room_cls (a := b.dn) (a' := b'.dn) hlo (by omega) h.dn
  obtain ⟨⟨p1, p2, p3, p4⟩, ⟨u1, u2, _⟩, d1, d2, _⟩ := h
  refine ⟨?_, letter_cls s _ _ c1 c2 c3 c4, ?_⟩
  · rw [hk, ← stand_iff s b' k hs k0 k1]
    have hst := (stand_iff s b k hs k0 k1).2 hk
    have hpb : m ≤ posB s b k := by omega
    unfold posB at hpb
    unfold Stand
    omega
  · unfold InB; omega
theorem margin_is (s : Su) (u : Value) (l : List Br) (w : World) (hl : RdL w 3 Br.c u l) (hlen : l.length ≤ 1000) (he : errOf s l = 0) : Ret Try.prog 10 [s.v, u] w (fun v w' => v = .tuple #[.int .i64 (marginOf s l), .int .i64 0] ∧ Ex w w') := by
  refine (margin_ret s u l w hl hlen).mono fun v w' ⟨e, hx⟩ => ⟨?_, hx⟩
  rw [e, he]; unfold marginR; rw [if_pos he]
theorem set_same {α : Type} : ∀ {l : List α} {i : Nat} {b : α}, l[i]? = some b → l.set i b = l
  | [], _, _, h => by simp at h
  | x :: l, 0, b, h => by simp at h; subst h; rfl
  | x :: l, i + 1, b, h => by rw [List.set_cons_succ, set_same (l := l) (by simpa using h)]
theorem lenok_self {s : Su} {h : Int} (h0 : 0 ≤ s.lo) : LenOk s h h := by unfold LenOk; exact ⟨fun e => ⟨by omega, by omega⟩, fun e => ⟨by omega, by omega⟩⟩
theorem lenok_up {s : Su} {h n : Int} (h1 : s.lo < s.hi) (h2 : s.hi ≤ h) (h3 : 0 ≤ n) (h4 : n ≤ 128) : LenOk s h (h + n) := by unfold LenOk; exact ⟨fun e => ⟨by omega, by omega⟩, fun e => ⟨by omega, by omega⟩⟩
theorem lenok_dn {s : Su} {h n : Int} (h0 : 0 ≤ s.lo) (h2 : ¬ s.hi ≤ h) (h3 : 0 ≤ n) (h4 : n ≤ 128) : LenOk s h (max (h - n) 0) := by unfold LenOk; exact ⟨fun e => ⟨by omega, by omega⟩, fun e => ⟨by omega, by omega⟩⟩
theorem len_start {s : Su} (bs : List Br) (h0 : 0 ≤ s.lo) : ∀ (j : Nat) (b b' : Br), bs[j]? = some b → bs[j]? = some b' → Len s b b' := fun j b b' h1 h2 => by
  rw [h1] at h2; injection h2 with h2; subst h2
  exact ⟨rfl, lenok_self h0, lenok_self h0⟩
theorem rel_step {R : Br → Br → Prop} {bs L : List Br} {i : Nat} {b cur : Br} (h : ∀ (j : Nat) (b b' : Br), bs[j]? = some b → L[j]? = some b' → R b b') (hb : bs[i]? = some b) (hr : R b cur) : ∀ (j : Nat) (b b' : Br), bs[j]? = some b → (L.set i cur)[j]? = some b' → R b b' := fun j b1 b2 h1 h2 => by
  rw [List.getElem?_set] at h2
  split at h2
  · rename_i e
    subst e
    split at h2
    · rw [hb] at h1; injection h1 with h1; injection h2 with h2; subst h1; subst h2; exact hr
    · cases h2
  · exact h j b1 b2 h1 h2
theorem tail_step {bs L : List Br} {i : Nat} {cur : Br} (h : ∀ j, i ≤ j → L[j]? = bs[j]?) : ∀ j, i + 1 ≤ j → (L.set i cur)[j]? = bs[j]? := fun j hj => by
  rw [List.getElem?_set, if_neg (by omega), h j (by omega)]
theorem back_len {s : Su} {bs L : List Br} {T : List UInt8} (hs : Okay s) (hi : s.hi ≤ 1000) (hpl : s.pl ≤ 70) (hpi : s.pi ≤ 256) (hog : s.og ≤ 555) (hR : Reads s bs T) (hT : (T.length : Int) = s.pl) (hmk : ∀ (k : Nat) (b : Br), bs[k]? = some b → ∃ (j : Nat) (c : UInt8), T[j]? = some c ∧ c ≠ 63 ∧ okLetter c = true ∧ b = mkb s c j)
    (hl : L.length = bs.length) (hLen : ∀ (j : Nat) (b b' : Br), bs[j]? = some b → L[j]? = some b' → Len s b b') :
    Reads s L T ∧ 0 ≤ marginOf s L ∧ ∀ b ∈ L, (0 ≤ b.po ∧ b.po ≤ 1000000) ∧ (0 ≤ b.up ∧ b.up ≤ 10000) ∧ 0 ≤ b.dn ∧ b.dn ≤ 10000 := by
  have back : ∀ b' ∈ L, ∃ (j : Nat) (c : UInt8), (j : Int) < s.pl ∧ Len s (mkb s c j) b' := fun b' hb' => by
    obtain ⟨i, hi⟩ := List.mem_iff_getElem?.1 hb'
    have hlt := (List.getElem?_eq_some_iff.1 hi).1
    have h1 := List.getElem?_eq_getElem (show i < bs.length by omega)
    obtain ⟨j, c, hj, _, _, e⟩ := hmk i _ h1
    have := (List.getElem?_eq_some_iff.1 hj).1
    exact ⟨j, c, by omega, by rw [← e]; exact hLen i _ _ h1 hi⟩
  refine ⟨reads_sim hR hl fun i b b' h1 h2 => ?_, margin_ge fun b' hb' => ?_, fun b' hb' => ?_⟩
  · obtain ⟨j, c, hj, _, _, e⟩ := hmk i b h1
    have := (List.getElem?_eq_some_iff.1 hj).1
    subst e
    exact len_sim hs (by omega) (mkb_in s c j hs (by omega)) (hLen i _ _ h1 h2)
  · obtain ⟨j, c, hj, h⟩ := back b' hb'
    exact len_room hs hj h
  · obtain ⟨j, c, hj, h⟩ := back b' hb'
    obtain ⟨a1, a2, a3, a4, a5, a6, a7, a8, a9, a10, a11⟩ := id hs
    obtain ⟨h1, h2⟩ := mkb_halves s c j
    obtain ⟨p1, ⟨u1, u2⟩, d1, d2⟩ := h
    have hpo : b'.po = s.og + (j : Int) * s.pi := p1
    have hm1 : 0 ≤ (j : Int) * s.pi := Int.mul_nonneg (by omega) (by omega)
    have hm2 : (j : Int) * s.pi ≤ 70 * 256 := Int.mul_le_mul (by omega) (by omega) (by omega) (by omega)
    have hu : 0 ≤ b'.up ∧ b'.up ≤ 10000 := by
      rcases h1 with h1 | h1
      · have := u1 h1; omega
      · have := u2 h1; omega
    have hd : 0 ≤ b'.dn ∧ b'.dn ≤ 10000 := by
      rcases h2 with h2 | h2
      · have := d1 h2; omega
      · have := d2 h2; omega
    exact ⟨⟨by omega, by omega⟩, hu, hd⟩
theorem shk_self {m a : Int} (h : 0 ≤ a) (hm : 0 ≤ m) : Shk m a a := ⟨h, by omega, by omega, by omega⟩
theorem shk_step {m a d : Int} (h : 0 ≤ a) (hm : 0 ≤ m) (h1 : -128 ≤ d) (h2 : d ≤ 127) : Shk m a (max (a + max (-m) (min d m)) 0) := ⟨by omega, by omega, by omega, by omega⟩
abbrev encT (b : Bool) : List Value := [.bool b]
theorem encT_len (b : Bool) : (encT b).length = 1 := rfl
/-- A setup in small numbers. -/
structure Fo where
  (og pi sl lo ga : Int)
abbrev Fo.v (f : Fo) : Value := .agg #[.int .u8 f.og, .int .u8 f.pi, .int .u8 f.sl, .int .u8 f.lo, .int .u8 f.ga]
def Fo.Ok (f : Fo) : Prop := (0 ≤ f.og ∧ f.og ≤ 255) ∧ (0 ≤ f.pi ∧ f.pi ≤ 255) ∧ (0 ≤ f.sl ∧ f.sl ≤ 255) ∧ (0 ≤ f.lo ∧ f.lo ≤ 255) ∧ 0 ≤ f.ga ∧ f.ga ≤ 255
def formOf (f : Fo) : Su := ⟨64, 300 + f.og, 1 + f.pi, f.sl % ((1 + f.pi + 1) / 2), f.lo, f.lo + 1 + f.ga⟩
theorem form_okay (f : Fo) (h : f.Ok) : Okay (formOf f) := by
  obtain ⟨⟨b1, b2⟩, ⟨c1, c2⟩, ⟨d1, d2⟩, ⟨e1, e2⟩, g1, g2⟩ := h
  unfold Okay formOf
  simp only
  have m0 := Int.emod_nonneg f.sl (show (1 + f.pi + 1) / 2 ≠ 0 by omega)
  have m1 := Int.emod_lt_of_pos f.sl (show 0 < (1 + f.pi + 1) / 2 by omega)
  refine ⟨by omega, by omega, by omega, by omega, by omega, by omega, m0, by omega, by omega, by omega, by omega⟩
theorem form_small (f : Fo) (h : f.Ok) : (formOf f).pl = 64 ∧ (formOf f).og ≤ 555 ∧ (formOf f).pi ≤ 256 ∧ (formOf f).hi ≤ 511 ∧ 300 ≤ (formOf f).og := by
  obtain ⟨⟨b1, b2⟩, ⟨c1, c2⟩, ⟨d1, d2⟩, ⟨e1, e2⟩, g1, g2⟩ := h
  exact ⟨rfl, by show 300 + f.og ≤ 555; omega, by show 1 + f.pi ≤ 256; omega, by show f.lo + 1 + f.ga ≤ 511; omega, by show 300 ≤ 300 + f.og; omega⟩
/-- Letters that are clear. -/
theorem isL_ok {c : UInt8} (h : isL c = true) : okLetter c = true := by
  rcases (of_decide_eq_true h : c.toNat = 84 ∨ c.toNat = 65 ∨ c.toNat = 68 ∨ c.toNat = 70 ∨ c.toNat = 63) with h | h | h | h | h
  · rw [show c = 84 from UInt8.toNat_inj.1 h]; decide
  · rw [show c = 65 from UInt8.toNat_inj.1 h]; decide
  · rw [show c = 68 from UInt8.toNat_inj.1 h]; decide
  · rw [show c = 70 from UInt8.toNat_inj.1 h]; decide
  · rw [show c = 63 from UInt8.toNat_inj.1 h]; decide
theorem wd_63 {c : List Nat} (he : El c) : ∀ x ∈ wd c, x ≠ 63 := fun x hx => by
  unfold wd at hx
  obtain ⟨s, hs, hx⟩ := List.mem_flatMap.1 hx
  obtain ⟨a, ha, rfl⟩ := List.mem_map.1 hs
  have ha := he a ha
  unfold w3 at hx
  rw [UInt8.toNat_ofNat_of_lt' (show a < 256 by omega)] at hx
  simp only [List.mem_cons, List.not_mem_nil, or_false] at hx
  rcases hx with rfl | rfl | rfl
  · exact (ltr_num (by omega)).2.1
  · exact (ltr_num (by omega)).2.1
  · exact (ltr_num (by omega)).2.1
theorem frm_63 {c : List Nat} (he : El c) : ∀ x ∈ frm (wd c), x ≠ 63 := fun x hx => by
  have : x ∈ [65, 84] ++ wd c ++ [70, 68] := hx
  rcases List.mem_append.1 this with h | h
  · rcases List.mem_append.1 h with h | h
    · rintro rfl; exact absurd h (by decide)
    · exact wd_63 he x h
  · rintro rfl; exact absurd h (by decide)
theorem frm_okL (c : List Nat) : (frm (wd c)).all okLetter = true := by
  rw [List.all_eq_true]
  exact fun x hx => isL_ok (List.all_eq_true.1 (frm_all (wd_all c)) x hx)
theorem drawL_full (s : Su) : ∀ (t : List UInt8) (k : Nat), (∀ c ∈ t, c ≠ 63) → (drawL s t k).length = t.length ∧ ∀ j : Nat, (drawL s t k)[j]? = (t[j]?).map fun c => mkb s c (k + j)
  | [], k, _ => ⟨rfl, fun j => by simp [drawL]⟩
  | x :: t, k, h => by
    obtain ⟨h1, h2⟩ := drawL_full s t (k + 1) fun c hc => h c (List.mem_cons_of_mem _ hc)
    rw [drawL, if_neg (h x (List.mem_cons_self ..))]
    refine ⟨by simp [h1], fun j => ?_⟩
    cases j with
    | zero => rfl
    | succ j =>
      show (drawL s t (k + 1))[j]? = (t[j]?).map _
      rw [h2 j]
      congr 1
      funext c
      congr 1
      omega
/-- What Draw draws of a payload. -/
theorem drw_all {s : Su} {t : List UInt8} {l : List Br} {e : Int} (hs : Okay s) (hp : s.pl = 64) (ht : errW t = 0) (h : DrR s t l e) :
    e = 0 ∧ ∃ c, IsEnc (b64 (numT t)) c ∧ c.length = 20 ∧ El c ∧ (frm (wd c)).length = 64 ∧ Reads s l (frm (wd c)) ∧ l.length = 64 ∧ ∀ (k : Nat) (b : Br), l[k]? = some b → ∃ x, (frm (wd c))[k]? = some x ∧ x ≠ 63 ∧ okLetter x = true ∧ b = mkb s x k := by
  rcases h with ⟨h, _⟩ | ⟨_, h, _⟩ | ⟨_, _, x, hw, h1, h2⟩
  · exact absurd ht h
  · exact absurd hp h
  · obtain ⟨c, hc, rfl⟩ := hw.1 ht
    rw [barsT_frm] at h1 h2
    have h20 := enc20 hc
    have h64 : (frm (wd c)).length = 64 := by rw [frm_len, wd_len, h20]
    have hok := frm_okL c
    have hn := frm_63 hc.el
    obtain ⟨e1, e2⟩ := drawErr_ok s (frm (wd c)) ⟨hs, by omega, hok⟩
    obtain ⟨d1, d2⟩ := drawL_full s (frm (wd c)) 0 hn
    rw [h1, h2, e1, e2]
    refine ⟨rfl, c, hc, h20, hc.el, h64, draw_reads s _ hs (by omega) hok, by omega, fun k b hb => ?_⟩
    rw [d2 k] at hb
    cases hq : (frm (wd c))[k]? with
    | none => rw [hq] at hb; cases hb
    | some x =>
      rw [hq] at hb
      injection hb with hb
      have hm := List.mem_of_getElem? hq
      exact ⟨x, rfl, hn x hm, List.all_eq_true.1 hok x hm, by rw [← hb, Nat.zero_add]⟩
/-- The bars that are missing, the symbols that they hit. -/
def goneB (ms : List Nat) (k : Nat) : Bool := ms.any fun m => decide (2 + m % 60 = k)
def goneL (ms : List Nat) : List Bool := (List.range 64).map (goneB ms)
theorem goneL_len (ms : List Nat) : (goneL ms).length = 64 := by unfold goneL; rw [List.length_map, List.length_range]
theorem goneL_nil : goneL [] = List.replicate 64 false := by decide +kernel
theorem goneL_at (ms : List Nat) {k : Nat} (h : k < 64) : (goneL ms)[k]? = some (goneB ms k) := by unfold goneL; rw [List.getElem?_map, List.getElem?_range h]; rfl
theorem goneL_more {ms : List Nat} {i m : Nat} (h : ms[i]? = some m) : goneL (ms.take (i + 1)) = (goneL (ms.take i)).set (2 + m % 60) true := by
  have hm := Nat.mod_lt m (show 60 > 0 by decide)
  apply List.ext_getElem?
  intro k
  rw [List.getElem?_set]
  by_cases hk : k < 64
  · rw [goneL_at _ hk, goneL_at _ hk]
    have e : goneB (ms.take (i + 1)) k = (goneB (ms.take i) k || decide (2 + m % 60 = k)) := by
      unfold goneB; rw [List.take_add_one, h, Option.toList_some, List.any_append]; simp
    rw [e]
    split
    · rename_i e2
      rw [if_pos (by rw [goneL_len]; omega), decide_eq_true e2, Bool.or_true]
    · rename_i e2
      rw [decide_eq_false e2, Bool.or_false]
  · rw [List.getElem?_eq_none (by rw [goneL_len]; omega), if_neg (by omega), List.getElem?_eq_none (by rw [goneL_len]; omega)]
theorem goneB_in {ms : List Nat} {k : Nat} (h : goneB ms k = true) : 2 ≤ k ∧ k < 62 := by
  unfold goneB at h
  obtain ⟨m, _, hm⟩ := List.any_eq_true.1 h
  have := of_decide_eq_true hm
  have := Nat.mod_lt m (show 60 > 0 by decide)
  omega
def hitA (ms : List Nat) (i k : Nat) : Bool := (List.range i).any fun j => goneB ms j && decide ((j - 2) / 3 = k)
def hitsL (ms : List Nat) (i : Nat) : List Bool := (List.range 20).map (hitA ms i)
theorem hitsL_len (ms : List Nat) (i : Nat) : (hitsL ms i).length = 20 := by unfold hitsL; rw [List.length_map, List.length_range]
theorem hitsL_zero (ms : List Nat) : hitsL ms 0 = List.replicate 20 false := by
  have : hitsL ms 0 = (List.range 20).map fun _ => false := rfl
  rw [this]; decide
theorem hitsL_at (ms : List Nat) (i : Nat) {k : Nat} (h : k < 20) : (hitsL ms i)[k]? = some (hitA ms i k) := by unfold hitsL; rw [List.getElem?_map, List.getElem?_range h]; rfl
theorem hitA_more (ms : List Nat) (i k : Nat) : hitA ms (i + 1) k = (hitA ms i k || (goneB ms i && decide ((i - 2) / 3 = k))) := by unfold hitA; rw [List.range_succ, List.any_append]; simp
theorem hitsL_no {ms : List Nat} {i : Nat} (h : goneB ms i = false) : hitsL ms (i + 1) = hitsL ms i := by
  unfold hitsL
  refine List.map_congr_left fun k _ => ?_
  rw [hitA_more, h, Bool.false_and, Bool.or_false]
theorem hitsL_yes {ms : List Nat} {i : Nat} (h : goneB ms i = true) : hitsL ms (i + 1) = (hitsL ms i).set ((i - 2) / 3) true := by
  have hin := goneB_in h
  apply List.ext_getElem?
  intro k
  rw [List.getElem?_set]
  by_cases hk : k < 20
  · rw [hitsL_at _ _ hk, hitsL_at _ _ hk, hitA_more, h, Bool.true_and]
    split
    · rename_i e2
      rw [if_pos (by rw [hitsL_len]; omega), decide_eq_true e2, Bool.or_true]
    · rename_i e2
      rw [decide_eq_false e2, Bool.or_false]
  · rw [List.getElem?_eq_none (by rw [hitsL_len]; omega), if_neg (by omega), List.getElem?_eq_none (by rw [hitsL_len]; omega)]
/-- What is left of a text. -/
def shown (T : List UInt8) (ms : List Nat) (n : Nat) : List UInt8 := (List.range T.length).map fun j => if j < n ∧ goneB ms j = false then T[j]?.getD 63 else 63
theorem shown_len (T : List UInt8) (ms : List Nat) (n : Nat) : (shown T ms n).length = T.length := by unfold shown; rw [List.length_map, List.length_range]
theorem shown_at {T : List UInt8} (ms : List Nat) (n : Nat) {j : Nat} (h : j < T.length) : (shown T ms n)[j]? = some (if j < n ∧ goneB ms j = false then T[j]?.getD 63 else 63) := by unfold shown; rw [List.getElem?_map, List.getElem?_range h]; rfl
theorem shown_no {T : List UInt8} {ms : List Nat} {n : Nat} (h : goneB ms n = true) : shown T ms (n + 1) = shown T ms n := by
  unfold shown
  refine List.map_congr_left fun j _ => ?_
  by_cases e : j = n
  · rw [e, if_neg (by rw [h]; simp), if_neg (by rw [h]; simp)]
  · by_cases g : j < n ∧ goneB ms j = false
    · rw [if_pos g, if_pos ⟨by omega, g.2⟩]
    · rw [if_neg g, if_neg (fun g2 => g ⟨by omega, g2.2⟩)]
theorem shown_yes {T : List UInt8} {ms : List Nat} {n : Nat} {x : UInt8} (h : goneB ms n = false) (hx : T[n]? = some x) : shown T ms (n + 1) = (shown T ms n).set n x := by
  have hn := (List.getElem?_eq_some_iff.1 hx).1
  apply List.ext_getElem?
  intro j
  rw [List.getElem?_set]
  by_cases hj : j < T.length
  · rw [shown_at _ _ hj, shown_at _ _ hj]
    by_cases e : n = j
    · have e1 : j < n + 1 ∧ goneB ms j = false := ⟨by omega, by rw [← e]; exact h⟩
      have e2 : n < (shown T ms n).length := by rw [shown_len]; exact hn
      rw [if_pos e1, if_pos e, if_pos e2, ← e, hx]; rfl
    · rw [if_neg e]
      by_cases g : j < n ∧ goneB ms j = false
      · rw [if_pos g, if_pos ⟨by omega, g.2⟩]
      · rw [if_neg g, if_neg (fun g2 => g ⟨by omega, g2.2⟩)]
  · rw [List.getElem?_eq_none (by rw [shown_len]; omega), if_neg (by omega), List.getElem?_eq_none (by rw [shown_len]; omega)]
/-- The bars that are kept of the first n. -/
structure Kept (s : Su) (T : List UInt8) (ms : List Nat) (n : Nat) (M : List Br) : Prop where
  reads : Reads s M (shown T ms n)
  low : ∀ b ∈ M, ∃ j : Nat, j < n ∧ plc s b = some (j : Int)
  len : M.length ≤ n
theorem kept_zero {s : Su} {T : List UInt8} (ms : List Nat) (h : (T.length : Int) = s.pl) : Kept s T ms 0 [] := by
  refine ⟨⟨by rw [shown_len]; exact h, by simp, fun b hb => absurd hb (by simp), fit_nil s, fun b hb => absurd hb (by simp), fun j c hj hc => ?_⟩, fun b hb => absurd hb (by simp), by simp⟩
  have hl := (List.getElem?_eq_some_iff.1 hj).1
  rw [shown_len] at hl
  rw [shown_at _ _ hl, if_neg (by omega)] at hj
  injection hj with hj
  exact absurd hj.symm hc
theorem kept_no {s : Su} {T : List UInt8} {ms : List Nat} {n : Nat} {M : List Br} (h : Kept s T ms n M) (hg : goneB ms n = true) : Kept s T ms (n + 1) M :=
  ⟨by rw [shown_no hg]; exact h.reads, fun b hb => by obtain ⟨j, h1, h2⟩ := h.low b hb; exact ⟨j, by omega, h2⟩, by have := h.len; omega⟩
theorem kept_yes {s : Su} {T : List UInt8} {ms : List Nat} {n : Nat} {M : List Br} {b : Br} {x : UInt8} (h : Kept s T ms n M) (hg : goneB ms n = false) (hn : n < 100) (hx : T[n]? = some x) (hb : InB b) (hp : plc s b = some (n : Int)) (hc : letter s b = x) : Kept s T ms (n + 1) (M ++ [b]) := by
  have hl := h.len
  have hnl := (List.getElem?_eq_some_iff.1 hx).1
  refine ⟨?_, fun a ha => ?_, by rw [List.length_append, List.length_singleton]; omega⟩
  · rw [shown_yes hg hx]
    refine snoc_reads s M _ n b x h.reads (by omega) hb hp ?_ hc ?_
    · rw [shown_at _ _ hnl, if_neg (by omega)]
    · rintro ⟨a, ha, he⟩
      obtain ⟨j, h1, h2⟩ := h.low a ha
      rw [h2] at he
      injection he with he
      omega
  · rcases List.mem_append.1 ha with h1 | h1
    · obtain ⟨j, h2, h3⟩ := h.low a h1; exact ⟨j, by omega, h3⟩
    · simp only [List.mem_singleton] at h1; subst h1; exact ⟨n, by omega, hp⟩
/-- One bar, made longer or shorter, then shaken. -/
theorem shaken_at {s : Su} {L : List Br} {n : Nat} {b cur : Br} {x : UInt8} (hs : Okay s) (hn : (n : Int) < s.pl) (hi : s.hi ≤ 1000) (hb : L[n]? = some b) (hbd : (0 ≤ b.po ∧ b.po ≤ 1000000) ∧ (0 ≤ b.up ∧ b.up ≤ 10000) ∧ 0 ≤ b.dn ∧ b.dn ≤ 10000) (hx : okLetter x = true) (h63 : x ≠ 63)
    (hL : Len s (mkb s x n) b) (hS : ShkB (marginOf s L) b cur) : InB cur ∧ plc s cur = some (n : Int) ∧ letter s cur = x := by
  have h1 := len_sim hs hi (mkb_in s x n hs hn) hL
  have hp := mkb_plc s x n hs hn
  have hl := mkb_letter s x n hs hx h63
  obtain ⟨⟨_, p⟩, ⟨_, u⟩, _, d⟩ := hbd
  have h2 := shk_sim hs (by rw [h1.pl, hp]) p u d (margin_le (List.mem_of_getElem? hb)) hS
  exact ⟨h2.ib, by rw [h2.pl, h1.pl, hp], by rw [h2.le, h1.le, hl]⟩
/-- What is left between the ends. -/
def shownI (W : List UInt8) (ms : List Nat) : List UInt8 := (List.range W.length).map fun j => if goneB ms (2 + j) = false then W[j]?.getD 63 else 63
theorem shownI_len (W : List UInt8) (ms : List Nat) : (shownI W ms).length = W.length := by unfold shownI; rw [List.length_map, List.length_range]
theorem shownI_at {W : List UInt8} (ms : List Nat) {j : Nat} (h : j < W.length) : (shownI W ms)[j]? = some (if goneB ms (2 + j) = false then W[j]?.getD 63 else 63) := by unfold shownI; rw [List.getElem?_map, List.getElem?_range h]; rfl
theorem shown_frm {W : List UInt8} {ms : List Nat} (h : W.length = 60) : shown (frm W) ms 64 = frm (shownI W ms) := by
  have hl := frm_len W
  have hl2 := frm_len (shownI W ms)
  have hsl := shownI_len W ms
  apply List.ext_getElem?
  intro j
  by_cases hj : j < 64
  · rw [shown_at _ _ (by omega)]
    by_cases h2 : 2 ≤ j ∧ j < 62
    · obtain ⟨k, rfl⟩ : ∃ k, j = 2 + k := ⟨j - 2, by omega⟩
      rw [frm_get (by omega), frm_get (by omega), shownI_at _ (by omega)]
      by_cases hg : goneB ms (2 + k) = false
      · rw [if_pos ⟨by omega, hg⟩, if_pos hg]
      · rw [if_neg (fun g => hg g.2), if_neg hg]
    · have hg : goneB ms j = false := by
        rw [← Bool.not_eq_true]
        exact fun g => h2 (goneB_in g)
      rw [if_pos ⟨by omega, hg⟩]
      obtain ⟨f0, f1, f2, f3⟩ := frm_at W
      obtain ⟨g0, g1, g2, g3⟩ := frm_at (shownI W ms)
      rcases (show j = 0 ∨ j = 1 ∨ j = W.length + 2 ∨ j = W.length + 3 by omega) with rfl | rfl | rfl | rfl
      · rw [f0, g0]; rfl
      · rw [f1, g1]; rfl
      · rw [f2, ← hsl, g2]; rfl
      · rw [f3, ← hsl, g3]; rfl
  · rw [List.getElem?_eq_none (by rw [shown_len]; omega), List.getElem?_eq_none (by omega)]
theorem shownI_all {W : List UInt8} (ms : List Nat) (h : W.all isL = true) : (shownI W ms).all isL = true := by
  rw [List.all_eq_true] at h ⊢
  intro x hx
  obtain ⟨j, hj, rfl⟩ := List.mem_map.1 hx
  have hj := List.mem_range.1 hj
  split
  · rw [List.getElem?_eq_getElem hj]; exact h _ (List.getElem_mem _)
  · rfl
theorem shown3 {W : List UInt8} {ms : List Nat} {i : Nat} (h : W.length = 60) (hi : i < 20) (h63 : ∀ x ∈ W, x ≠ 63) :
    unc (shownI W ms) i = (goneB ms (2 + 3 * i) || goneB ms (3 + 3 * i) || goneB ms (4 + 3 * i)) ∧ (unc (shownI W ms) i = false → part (shownI W ms) i = part W i) := by
  obtain ⟨a, b, c, hp, h0, h1, h2⟩ := part_eq (T := W) (i := i) (by omega)
  obtain ⟨x, y, z, hq, k0, k1, k2⟩ := part_eq (T := shownI W ms) (i := i) (by rw [shownI_len]; omega)
  rw [shownI_at _ (by omega), h0] at k0
  rw [shownI_at _ (by omega), h1] at k1
  rw [shownI_at _ (by omega), h2] at k2
  injection k0 with k0
  injection k1 with k1
  injection k2 with k2
  have na := h63 a (List.mem_of_getElem? h0)
  have nb := h63 b (List.mem_of_getElem? h1)
  have nc := h63 c (List.mem_of_getElem? h2)
  rw [show 2 + (3 * i + 1) = 3 + 3 * i by omega] at k1
  rw [show 2 + (3 * i + 2) = 4 + 3 * i by omega] at k2
  rw [unc3 hq, hp, hq, ← k0, ← k1, ← k2]
  cases goneB ms (2 + 3 * i) <;> cases goneB ms (3 + 3 * i) <;> cases goneB ms (4 + 3 * i) <;> simp [na, nb, nc]
theorem hitA_end (ms : List Nat) {i : Nat} (hi : i < 20) : hitA ms 64 i = (goneB ms (2 + 3 * i) || goneB ms (3 + 3 * i) || goneB ms (4 + 3 * i)) := by
  rw [Bool.eq_iff_iff]
  unfold hitA
  rw [List.any_eq_true]
  constructor
  · rintro ⟨j, _, h⟩
    rw [Bool.and_eq_true] at h
    have hin := goneB_in h.1
    have hj := of_decide_eq_true h.2
    rcases (show j = 2 + 3 * i ∨ j = 3 + 3 * i ∨ j = 4 + 3 * i by omega) with rfl | rfl | rfl <;> simp [h.1]
  · intro h
    rw [Bool.or_eq_true, Bool.or_eq_true] at h
    rcases h with (h | h) | h
    · exact ⟨2 + 3 * i, List.mem_range.2 (by omega), by rw [h, Bool.true_and]; exact decide_eq_true (by omega)⟩
    · exact ⟨3 + 3 * i, List.mem_range.2 (by omega), by rw [h, Bool.true_and]; exact decide_eq_true (by omega)⟩
    · exact ⟨4 + 3 * i, List.mem_range.2 (by omega), by rw [h, Bool.true_and]; exact decide_eq_true (by omega)⟩
theorem shown_eras {W : List UInt8} {ms : List Nat} (h : W.length = 60) (h63 : ∀ x ∈ W, x ≠ 63) : erasL (shownI W ms) 20 = (List.range 20).filter (hitA ms 64) := by
  unfold erasL
  refine List.filter_congr fun i hi => ?_
  have hi := List.mem_range.1 hi
  rw [(shown3 h hi h63).1, hitA_end ms hi]
theorem shown_nr {W : List UInt8} {ms : List Nat} (h : W.length = 60) (h63 : ∀ x ∈ W, x ≠ 63) : (List.range 20).filter (nrB W (shownI W ms)) = [] := by
  rw [List.filter_eq_nil_iff]
  intro i hi
  have hi := List.mem_range.1 hi
  unfold nrB
  cases hu : unc (shownI W ms) i with
  | true => simp
  | false => rw [(shown3 h hi h63).2 hu]; simp
theorem cnt_or (p q : Nat → Bool) : ∀ l : List Nat, (l.filter fun i => p i || q i).length ≤ (l.filter p).length + (l.filter q).length
  | [] => Nat.zero_le _
  | x :: l => by
    have := cnt_or p q l
    rw [List.filter_cons, List.filter_cons, List.filter_cons]
    cases p x <;> cases q x <;> simp <;> omega
theorem cnt_one (a : Nat) : ∀ n : Nat, ((List.range n).filter fun i => decide (a = i)).length ≤ if a < n then 1 else 0
  | 0 => Nat.zero_le _
  | n + 1 => by
    have := cnt_one a n
    rw [List.range_succ, List.filter_append, List.length_append]
    by_cases e : a = n
    · subst e
      rw [if_neg (by omega)] at this
      have e2 : (List.filter (fun i => decide (a = i)) [a]).length = 1 := by simp
      rw [e2, if_pos (by omega)]
      omega
    · have e2 : (List.filter (fun i => decide (a = i)) [n]).length = 0 := by simp [e]
      rw [e2]
      split at this
      · rw [if_pos (by omega)]; omega
      · omega
theorem hits_few : ∀ ms : List Nat, ((List.range 20).filter (hitA ms 64)).length ≤ ms.length := by
  intro ms
  have key : ∀ l : List Nat, ((List.range 20).filter fun i => l.any fun m => decide (m % 60 / 3 = i)).length ≤ l.length := by
    intro l
    induction l with
    | nil => simp
    | cons m l ih =>
      have h1 := cnt_or (fun i => decide (m % 60 / 3 = i)) (fun i => l.any fun m => decide (m % 60 / 3 = i)) (List.range 20)
      have h2 := cnt_one (m % 60 / 3) 20
      simp only [List.any_cons, List.length_cons]
      split at h2 <;> omega
  refine Nat.le_trans (Nat.le_of_eq (congrArg List.length (List.filter_congr fun i hi => ?_))) (key ms)
  have hi := List.mem_range.1 hi
  rw [Bool.eq_iff_iff]
  unfold hitA goneB
  rw [List.any_eq_true, List.any_eq_true]
  constructor
  · rintro ⟨j, _, h⟩
    rw [Bool.and_eq_true, List.any_eq_true] at h
    obtain ⟨⟨m, hm, h1⟩, h2⟩ := h
    have h1 := of_decide_eq_true h1
    have h2 := of_decide_eq_true h2
    exact ⟨m, hm, decide_eq_true (by omega)⟩
  · rintro ⟨m, hm, h⟩
    have h := of_decide_eq_true h
    have := Nat.mod_lt m (show 60 > 0 by decide)
    refine ⟨2 + m % 60, List.mem_range.2 (by omega), ?_⟩
    rw [Bool.and_eq_true, List.any_eq_true]
    exact ⟨⟨m, hm, decide_eq_true rfl⟩, decide_eq_true (by omega)⟩
/-- What is scanned. -/
theorem scan_shown {s : Su} {M : List Br} {t t' : List UInt8} {c es er : List Nat} {ms : List Nat} {b : Bool} {e : Int} (hs : Okay s) (hp : s.pl = 64) (hie : IsEnc (b64 (numT t)) c) (ht : errW t = 0) (hm : ms.length ≤ 4) (hk : Kept s (frm (wd c)) ms 64 M) (h : ScR s M t' b es er e) :
    e = 0 ∧ t' = t ∧ b = false ∧ es = [] ∧ er = (List.range 20).filter (hitA ms 64) := by
  have h20 := enc20 hie
  have h60 : (wd c).length = 60 := by rw [wd_len, h20]
  have h63 := wd_63 hie.el
  have hO60 : (shownI (wd c) ms).length = 60 := by rw [shownI_len, h60]
  have hOa := shownI_all ms (wd_all c)
  have he := hk.reads.err hs
  have hr := hk.reads.read hs
  rw [shown_frm h60] at hr
  have hn := shown_nr (ms := ms) h60 h63
  have hx := shown_eras (ms := ms) h60 h63
  have hf := hits_few ms
  rcases h with ⟨h, _⟩ | ⟨_, h, _⟩ | ⟨_, _, h⟩
  · exact absurd hp h
  · exact absurd he h
  · rw [hr] at h
    obtain ⟨r1, r2, r3, r4, r5⟩ := rd_hit (frm_up hOa (by omega)) (by rw [frm_len, hO60]) hO60 hOa hie ht (by rw [hn, hx]; simp; omega) h
    exact ⟨r1, r2, r3, by rw [r4, hn], by rw [r5, hx]⟩
theorem filt_more (p : Nat → Bool) (i : Nat) : ((List.range (i + 1)).filter p).length = ((List.range i).filter p).length + if p i then 1 else 0 := by
  rw [List.range_succ, List.filter_append, List.length_append]
  cases h : p i <;> simp [h]
theorem filt_at {p : Nat → Bool} {n i : Nat} (hi : i < n) (h : p i = true) : ((List.range n).filter p)[((List.range i).filter p).length]? = some i := by
  obtain ⟨m, rfl⟩ : ∃ m, n = i + 1 + m := ⟨n - (i + 1), by omega⟩
  rw [List.range_add, List.filter_append, List.range_succ, List.filter_append, List.append_assoc, List.getElem?_append_right (Nat.le_refl _), Nat.sub_self]
  simp [h]
end Go.Proofs.Ytgjnchjkjdnidaa

/- A list of hits as an argument. -/
namespace Go.Proofs.Ytgjnchjkjdnidaa
open Go.ChangeShapes Go.WideShapes Go.ChangeAt Go.RowKit Go.Deep
section
variable {H : Type} {enc : TypeId × Value → H} {P : Program} {w : World} {base : Nat} {spare : Nat → Bool} {held : Bool}
theorem hits_row {t t0 t1 : TypeId} {fs : Array Field} {f0 f1 : Field} {fuel : Nat} {cs : List Value} {x : DataW H × List MemPlace} (hs : P.underlying t = some (.struct fs)) (hfs : fs = #[f0, f1]) (g0 : f0.type = t0) (g1 : f1.type = t1) (hone : oneCellFields P fs = true)
    (h0 : P.underlying t0 = some (.int .u8)) (h1 : P.underlying t1 = some (.int .u8)) (h : DataW.trod enc P w base spare held fuel t cs = some x) (hl : cs.length = 2) :
    ∃ a : Hit, cs = encH a ∧ a.1 < 256 ∧ a.2 < 256 := by
  obtain ⟨ys, m, _, _, hlen, hyl, hf⟩ := DataW.trod_struct hs h
  match cs, hl with
  | [c0, c1], _ =>
    have q0 : fs[0]? = some f0 := by rw [hfs]; rfl
    have q1 : fs[1]? = some f1 := by rw [hfs]; rfl
    have k0 := hf 0 _ q0
    have k1 := hf 1 _ q1
    obtain ⟨o0, c0'⟩ := hone_of hone 0 _ q0
    obtain ⟨o1, c1'⟩ := hone_of hone 1 _ q1
    rw [o0, c0'] at k0
    rw [o1, c1'] at k1
    have hys : 2 ≤ ys.length := by rw [hfs] at hyl; simp at hyl; omega
    rw [List.getElem?_eq_getElem (show 0 < ys.length by omega)] at k0
    rw [List.getElem?_eq_getElem (show 1 < ys.length by omega)] at k1
    obtain ⟨a, ha, _, wa⟩ := DataW.trod_int (g0 ▸ h0) k0
    obtain ⟨b, hb, _, wb⟩ := DataW.trod_int (g1 ▸ h1) k1
    have e0 : c0 = .int .u8 a := by simpa using ha
    have e1 : c1 = .int .u8 b := by simpa using hb
    have := wf_u8 wa
    have := wf_u8 wb
    refine ⟨(a.toNat, b.toNat), ?_, by show a.toNat < 256; omega, by show b.toNat < 256; omega⟩
    rw [e0, e1]
    show [Value.int .u8 a, .int .u8 b] = [Value.int .u8 ((a.toNat : Nat) : Int), .int .u8 ((b.toNat : Nat) : Int)]
    rw [Int.toNat_of_nonneg (by omega), Int.toNat_of_nonneg (by omega)]
/-- A slice of them. -/
theorem open_hits_slice {t e t0 t1 : TypeId} {fs : Array Field} {f0 f1 : Field} {a : Option Addr} {len cap : Nat} {d : DataW H} {p : List MemPlace} (ht : P.underlying t = some (.slice e)) (hs : P.underlying e = some (.struct fs)) (hfs : fs = #[f0, f1]) (g0 : f0.type = t0) (g1 : f1.type = t1) (hone : oneCellFields P fs = true)
    (h0 : P.underlying t0 = some (.int .u8)) (h1 : P.underlying t1 = some (.int .u8)) (hC : P.cellsOf e = 2) (h : DataW.Trod enc P w base spare held t (.slice a len cap) d p) :
    ∃ l : List Hit, RdL w 2 encH (.slice a len cap) l ∧ ∀ x ∈ l, x.1 < 256 ∧ x.2 < 256 := by
  obtain ⟨fuel, hf⟩ := h
  rcases open_slice ht hf with ⟨h0, _⟩ | ⟨ad, len', cap', m, n, D, Pl, hcs, hb, hl, hm, hmm, _, hi⟩
  · simp [Value.cells] at h0
    obtain ⟨rfl, rfl, rfl⟩ := h0
    exact ⟨[], RdL.nil_ w, by simp⟩
  · simp [Value.cells] at hcs
    obtain ⟨rfl, rfl, rfl⟩ := hcs
    obtain ⟨l, hL⟩ : ∃ l : List {x : Hit // x.1 < 256 ∧ x.2 < 256}, RdL w 2 (fun x => encH x.1) (.slice (some ad) len cap) l := by
      refine rdl_of (by omega) (fun _ => rfl) hl hm fun i hlt => ?_
      have hlm : len ≤ m := by rw [hmm]; split <;> omega
      obtain ⟨cs', hc, htr⟩ := hi i (by omega)
      rw [hC] at hc
      obtain ⟨_, hcl, hat⟩ := World.cells?_some hc
      obtain ⟨x, hx, hp, ha⟩ := hits_row hs hfs g0 g1 hone h0 h1 htr (by omega)
      refine ⟨⟨x, hp, ha⟩, fun j u hu => ?_⟩
      have hu' : cs'[j]? = some u := by rw [hx]; exact hu
      have hj : j < 2 := by have := (List.getElem?_eq_some_iff.1 hu').1; omega
      rw [hat j hj, hu']
    refine ⟨l.map Subtype.val, RdL.map_ Subtype.val (fun _ => rfl) hL, fun x hx => ?_⟩
    obtain ⟨y, _, rfl⟩ := List.mem_map.1 hx
    exact y.2
end
end Go.Proofs.Ytgjnchjkjdnidaa

/- Walks (UZ). Written by program. -/
namespace Go.Proofs.Ytgjnchjkjdnidaa
open Go.RowKit
set_option maxRecDepth 100000 in
set_option maxHeartbeats 8000000 in
theorem barcodeMeasured_ret (u un um : Value) (f : Fo) (l : List Nat) (ln : List I8) (lm : List Nat) (w : World) (hf : f.Ok) (hl : RdL w 1 encN u l) (hb : ∀ a ∈ l, a < 256) (hn : RdL w 1 encS un ln) (hm : RdL w 1 encN um lm) (hmb : ∀ a ∈ lm, a < 256) :
    Ret Try.prog 3 [u, f.v, un, um] w (fun v w' => v = .bool true ∧ Ex w w') := by
  obtain ⟨⟨f3, f4⟩, ⟨f5, f6⟩, ⟨f7, f8⟩, ⟨f9, f10⟩, f11, f12⟩ := id hf
  obtain ⟨mA, mC, rfl⟩ := hm.shape
  have hdo := digs_ok l
  have hd28 := digs_len l
  have hdl := sb_len (digs l)
  have hB0 : Ex w w := Ex.rfl_ _
  refine Ret.of Try.func3 rfl Try.ntmps3 rfl ?_
  refine CW.seq ?_
  refine CW.region ?_
  refine RG.box rfl rfl rfl rfl rfl (fun gF w1 egF hx1 hb1 => ?_)
  have hle2 : w.heap.size ≤ gF := by have := (Ex.rfl_ w).size; omega
  have hE3 := hx1
  refine RG.vl rfl rfl rfl (Ev.assign rfl rfl) ?_
  refine RG.done ?_
  refine QW.then_ ?_
  refine CW.seq ?_
  refine CW.region ?_
  refine RG.vl rfl rfl rfl (Ev.fld rfl rfl fld_24_0) ?_
  refine RG.vl rfl rfl rfl (Ev.ldAt rfl rfl Try.underlying5 rfl (hb1.cells) (rfl)) ?_
  refine RG.vl rfl rfl rfl (Ev.to64 rfl rfl Try.underlying5 Try.underlying3 (by omega)) ?_
  refine RG.vl rfl rfl rfl (Ev.addI rfl rfl rfl (by omega)) ?_
  refine RG.vl rfl rfl rfl (Ev.fld rfl rfl fld_24_1) ?_
  refine RG.vl rfl rfl rfl (Ev.ldAt rfl rfl Try.underlying5 rfl (hb1.cells) (rfl)) ?_
  refine RG.vl rfl rfl rfl (Ev.to64 rfl rfl Try.underlying5 Try.underlying3 (by omega)) ?_
  refine RG.vl rfl rfl rfl (Ev.addI rfl rfl rfl (by omega)) ?_
  refine RG.vl rfl rfl rfl (Ev.fld rfl rfl fld_24_3) ?_
  refine RG.vl rfl rfl rfl (Ev.ldAt rfl rfl Try.underlying5 rfl (hb1.cells) (rfl)) ?_
  refine RG.vl rfl rfl rfl (Ev.to64 rfl rfl Try.underlying5 Try.underlying3 (by omega)) ?_
  refine RG.vl rfl rfl rfl (Ev.fld rfl rfl fld_24_3) ?_
  refine RG.vl rfl rfl rfl (Ev.ldAt rfl rfl Try.underlying5 rfl (hb1.cells) (rfl)) ?_
  refine RG.vl rfl rfl rfl (Ev.to64 rfl rfl Try.underlying5 Try.underlying3 (by omega)) ?_
  refine RG.vl rfl rfl rfl (Ev.addI rfl rfl rfl (by omega)) ?_
  refine RG.vl rfl rfl rfl (Ev.fld rfl rfl fld_24_4) ?_
  refine RG.vl rfl rfl rfl (Ev.ldAt rfl rfl Try.underlying5 rfl (hb1.cells) (rfl)) ?_
  refine RG.vl rfl rfl rfl (Ev.to64 rfl rfl Try.underlying5 Try.underlying3 (by omega)) ?_
  refine RG.vl rfl rfl rfl (Ev.addI rfl rfl rfl (by omega)) ?_
  refine RG.vl rfl rfl rfl (Ev.build1 rfl rfl rfl inf_27 rfl rfl (by kernel_rfl) rfl) ?_
  refine RG.local_ rfl rfl rfl rfl (fun _ => rfl) rfl rfl (fun _ => rfl) inf_27 rfl rfl rfl (fun gS w4 egS hx4 hb4 => ?_)
  have hle5 : w.heap.size ≤ gS := by have := hE3.size; omega
  have hle6 : w1.heap.size ≤ gS := by have := (Ex.rfl_ w1).size; omega
  have hlt7 : gF < gS := by have := Blk.lt hb1; omega
  replace hE3 := Ex.tr hE3 hx4
  have hE8 := hx4
  refine RG.done ?_
  refine QW.sub (S' := [(0, _), (2, _), (3, _), (5, _), (8, _), (9, _)]) ⟨rfl, rfl, rfl, rfl, rfl, rfl, trivial⟩ ?_
  refine QW.then_ ?_
  refine CW.seq ?_
  refine CW.region ?_
  refine RG.vl rfl rfl rfl (Ev.fld rfl rfl fld_24_2) ?_
  refine RG.vl rfl rfl rfl (Ev.ldAt rfl rfl Try.underlying5 rfl ((hb1.ext hE8).cells) (rfl)) ?_
  refine RG.vl rfl rfl rfl (Ev.to64 rfl rfl Try.underlying5 Try.underlying3 (by omega)) ?_
  refine RG.vl rfl rfl rfl (Ev.fld rfl rfl fld_27_2) ?_
  refine RG.vl rfl rfl rfl (Ev.ldAt rfl rfl Try.underlying3 rfl (hb4.cells) (rfl)) ?_
  refine RG.vl rfl rfl rfl (Ev.addI rfl rfl rfl (by omega)) ?_
  refine RG.vl rfl rfl rfl (Ev.quoI rfl rfl rfl (by omega)) ?_
  refine RG.vl rfl rfl rfl (Ev.remI rfl rfl rfl (by omega)) ?_
  refine RG.vl rfl rfl rfl (Ev.fld rfl rfl fld_27_3) ?_
  refine RG.st (g := gS) (k := 3) rfl rfl rfl rfl rfl sz_3 rfl hb4 rfl (fun ws9 hwws9 hbws9 => ?_)
  replace hE3 := Wr.below hE3 hwws9 hle5
  replace hE8 := Wr.below hE8 hwws9 hle6
  refine RG.done ?_
  refine QW.then_ ?_
  refine CW.seq ?_
  obtain ⟨s, hs0⟩ : ∃ s, s = formOf f := ⟨_, rfl⟩
  have hbS0 : Blk ws9 gS 27 s.v.cells.toList := by rw [hs0]; exact hbws9
  have hok := form_okay f hf
  have hsm := form_small f hf
  rw [← hs0] at hok hsm
  obtain ⟨s1, s2, s3, s4, s5⟩ := hsm
  obtain ⟨a1, a2, a3, a4, a5, a6, a7, a8, a9, a10, a11⟩ := id hok
  refine CW.region ?_
  refine RG.vl rfl rfl rfl (Ev.move rfl rfl) ?_
  refine RG.call rfl rfl rfl rfl rfl rfl rfl en_8 (digits_ret _ l _ ((hl.ext hE3)) hb) ?_
  rintro _ w10 ⟨rfl, hx10⟩
  replace hE3 := Ex.tr hE3 hx10
  replace hE8 := Ex.tr hE8 hx10
  have hE11 := hx10
  refine RG.vl rfl rfl rfl (Ev.assign rfl rfl) ?_
  refine RG.done ?_
  refine QW.then_ ?_
  refine CW.seq ?_
  refine CW.region ?_
  refine RG.vl rfl rfl rfl (Ev.ldAgg rfl rfl Try.underlying27 rfl sz_27 rfl ((hbS0.ext hE11).cells)) ?_
  refine RG.vl rfl rfl rfl (Ev.move rfl rfl) ?_
  replace hl := (hl.ext hE3)
  replace hn := (hn.ext hE3)
  replace hm := (hm.ext hE3)
  replace hb1 := (hb1.ext hE8)
  replace hbS0 := (hbS0.ext hE11)
  have hR12 := (Ex.tr hB0 hE3)
  have hR13 := hE11
  refine RG.call rfl rfl rfl rfl rfl rfl rfl en_9 (bdraw_ret s (digs l) _ (by omega)) ?_
  have hpre14 := hR12
  rintro _ w14 ⟨ud, bs, e0, rfl, hbs, hdr, hx14⟩
  have hE15 := hx14
  obtain ⟨rfl, c, hie, h20, hce, hT64, hR, hbl, hmk⟩ := drw_all hok s1 hdo hdr
  have hT1 : ((frm (wd c)).length : Int) = s.pl := by omega
  refine RG.vl rfl rfl rfl (Ev.move rfl rfl) ?_
  refine RG.vl rfl rfl rfl (Ev.extract rfl rfl rfl) ?_
  refine RG.vl rfl rfl rfl (Ev.extract rfl rfl rfl) ?_
  refine RG.vl rfl rfl rfl (Ev.assign rfl rfl) ?_
  refine RG.vl rfl rfl rfl (Ev.assign rfl rfl) ?_
  refine RG.done ?_
  refine QW.sub (S' := [(2, _), (3, _), (8, _), (9, _), (10, _), (11, _), (12, _)]) ⟨rfl, rfl, rfl, rfl, rfl, rfl, rfl, trivial⟩ ?_
  refine QW.then_ ?_
  refine CW.seq ?_
  refine CW.seq ?_
  refine CW.region ?_
  refine RG.vl rfl rfl rfl (Ev.move rfl rfl) ?_
  refine RG.vl rfl rfl rfl (Ev.isF (Ev.neI rfl rfl rfl) (fun h => h rfl)) ?_
  refine RG.vl rfl rfl rfl (Ev.move rfl rfl) ?_
  refine RG.vl rfl rfl rfl (Ev.move rfl rfl) ?_
  refine RG.vl rfl rfl rfl (Ev.lenL rfl rfl rfl Try.underlying29 ((hbs.rdl Br.c_len))) ?_
  refine RG.vl rfl rfl rfl (Ev.isF (Ev.neI rfl rfl rfl) (fun h => h (by omega))) ?_
  refine RG.vl rfl rfl rfl (Ev.pickF rfl rfl rfl) ?_
  refine RG.done ?_
  refine QW.then_ ?_
  refine CW.condF rfl ?_
  refine CW.skip ?_
  refine QW.then_ ?_
  refine CW.seq ?_
  refine CW.seq ?_
  refine CW.region ?_
  refine RG.vl rfl rfl rfl (Ev.move rfl rfl) ?_
  refine RG.vl rfl rfl rfl (Ev.lenL rfl rfl rfl Try.underlying29 ((hbs.rdl Br.c_len))) ?_
  refine RG.vl rfl rfl rfl (Ev.move rfl rfl) ?_
  refine RG.done ?_
  refine QW.then_ ?_
  refine CW.block ?_
  refine CW.loop2 [(2, _), (3, _), (8, _), (9, _), (10, _), (11, _), (78, _)] ⟨rfl, rfl, rfl, rfl, rfl, rfl, rfl, trivial⟩ (fun (i : Nat) (L : List Br) => [(79, .int .i64 i)]) (fun i L w' => (i ≤ bs.length ∧ L.length = bs.length ∧ (∀ (j : Nat) (b b' : Br), bs[j]? = some b → L[j]? = some b' → Len s b b') ∧ (∀ j, i ≤ j → L[j]? = bs[j]?) ∧ Own w' w10.heap.size 35 3 Br.c ud L) ∧ Ex w10 w') (fun i L => bs.length - i) (0) (bs) ⟨rfl, trivial⟩ ⟨⟨Nat.zero_le _, rfl, len_start bs (by omega), fun _ _ => rfl, hbs⟩, hE15⟩ ?_
  rintro i L wl16 ⟨⟨hi, hLl, hLen, hLt, hbs⟩, hxwl16⟩
  refine CW.sub (S' := [(79, _), (2, _), (3, _), (8, _), (9, _), (10, _), (11, _), (78, _)]) ⟨rfl, rfl, rfl, rfl, rfl, rfl, rfl, rfl, trivial⟩ ?_
  refine CW.seq ?_
  refine CW.region ?_
  refine RG.vl rfl rfl rfl (Ev.lss rfl rfl rfl) ?_
  refine RG.done ?_
  refine QW.then_ ?_
  refine CW.seq ?_
  refine CW.condP rfl (fun hc17 => ?_) (fun hc17 => ?_)
  · refine CW.skip ?_
    refine QW.then_ ?_
    refine CW.seq ?_
    refine CW.block ?_
    refine CW.seq ?_
    refine CW.region ?_
    refine RG.vl rfl rfl rfl (Ev.move rfl rfl) ?_
    refine RG.vl rfl rfl rfl (Ev.assign rfl rfl) ?_
    refine RG.done ?_
    refine QW.then_ ?_
    refine CW.seq ?_
    obtain ⟨b, hb⟩ : ∃ b, bs[i]? = some b := ⟨_, List.getElem?_eq_getElem (by omega)⟩
    have hLb : L[i]? = some b := by rw [hLt i (Nat.le_refl _), hb]
    obtain ⟨cx, hj1, hj2, hj3, hbe⟩ := hmk i b hb
    have hhal := mkb_halves s cx i
    rw [← hbe] at hhal
    refine CW.draw [] (.ex) 11 rfl mixed (fun wd18 hxwd18 => ?_)
    replace hxwl16 := Ex.tr hxwl16 hxwd18
    have hE19 := hxwd18
    refine AG.takeW 0 rfl (by kernel_rfl) (by kernel_rfl) rfl rfl rfl (fun _ => Ev.move rfl rfl) ?_
    refine AG.takeW 1 rfl (by kernel_rfl) (by kernel_rfl) rfl rfl rfl (fun _ => Ev.move rfl rfl) ?_
    refine AG.idxO _ 2 rfl (by kernel_rfl) (by kernel_rfl) rfl rfl rfl rfl rfl rfl Try.underlying29 sz_35 Br.c_len ((Own.ext hbs hE19)) (hLb) (fun g21 hg21 hBg21 hp20b hp20 => ?_)
    refine AG.takeW 3 rfl (by kernel_rfl) (by kernel_rfl) rfl rfl rfl (fun _ => Ev.fld rfl rfl fld_35_1) ?_
    refine AG.takeW 4 rfl (by kernel_rfl) (by kernel_rfl) rfl rfl rfl (fun _ => Ev.move rfl rfl) ?_
    refine AG.takeW 5 rfl (by kernel_rfl) (by kernel_rfl) rfl rfl rfl (fun _ => Ev.move rfl rfl) ?_
    refine AG.idxO _ 6 rfl (by kernel_rfl) (by kernel_rfl) rfl rfl rfl rfl rfl rfl Try.underlying29 sz_35 Br.c_len ((Own.ext hbs hE19)) (hLb) (fun g23 hg23 hBg23 hp22b hp22 => ?_)
    refine AG.takeW 7 rfl (by kernel_rfl) (by kernel_rfl) rfl rfl rfl (fun _ => Ev.fld rfl rfl fld_35_2) ?_
    refine AG.takeW 10 rfl (by kernel_rfl) (by kernel_rfl) rfl rfl rfl (fun _ => Ev.move rfl rfl) ?_
    refine AG.only 8 rfl (by kernel_rfl) ?_
    refine RG.buildD (xs := [.tmp 85, .tmp 89]) rfl rfl rfl rfl rfl rfl rfl Try.underlying36 inf_33 rfl rfl rfl rfl (fun gP w25 egP hx25 hb25 => ?_)
    have hsb26 := fun e => sep_new (g := gP) (Own.ext hbs hE19) egP e
    have hle27 : w10.heap.size ≤ gP := by have := hxwl16.size; omega
    have hle28 : wl16.heap.size ≤ gP := by have := hE19.size; omega
    have hle29 : wd18.heap.size ≤ gP := by have := (Ex.rfl_ wd18).size; omega
    have hlt30 : gF < gP := by have := Blk.lt (hb1.ext hxwl16); omega
    have hlt31 : gS < gP := by have := Blk.lt (hbS0.ext hxwl16); omega
    replace hxwl16 := Ex.tr hxwl16 hx25
    replace hE19 := Ex.tr hE19 hx25
    have hE32 := hx25
    refine RG.done ?_
    refine QW.an (fun _ => hE32) ?_
    refine AG.takeW 9 rfl (by kernel_rfl) (by kernel_rfl) rfl rfl rfl (fun _ => Ev.lenSlice rfl rfl rfl Try.underlying36) ?_
    refine AG.done (by kernel_rfl) ?_
    refine QW.sub (S' := [(2, _), (3, _), (8, _), (9, _), (10, _), (11, _), (78, _), (79, _), (90, _), (91, _), (92, _)]) ⟨rfl, rfl, rfl, rfl, rfl, rfl, rfl, rfl, rfl, rfl, rfl, trivial⟩ ?_
    refine QW.then_ ?_
    refine CW.block ?_
    refine CW.loop2 [(2, _), (3, _), (8, _), (9, _), (10, _), (11, _), (78, _), (79, _), (90, _), (91, _)] ⟨rfl, rfl, rfl, rfl, rfl, rfl, rfl, rfl, rfl, rfl, trivial⟩ (fun (k : Nat) (cur : Br) => [(92, .int .i64 k)]) (fun k cur w' => (k ≤ 2 ∧ cur.po = b.po ∧ (k = 0 → cur.up = b.up) ∧ (k ≤ 1 → cur.dn = b.dn) ∧ LenOk s b.up cur.up ∧ LenOk s b.dn cur.dn ∧ Own w' w10.heap.size 35 3 Br.c ud (L.set i cur) ∧ Blk w' gP 33 [.pointer (some (((⟨g21, 0, none⟩ : Addr).add (i * 3)).add 1)), .pointer (some (((⟨g23, 0, none⟩ : Addr).add (i * 3)).add 2))]) ∧ Ex w10 w') (fun k cur => 2 - k) (0) (b) ⟨rfl, trivial⟩ ⟨⟨by omega, rfl, fun _ => rfl, fun _ => rfl, lenok_self (by omega), lenok_self (by omega), by rw [set_same hLb]; exact (Own.ext hbs hE19), hb25⟩, hxwl16⟩ ?_
    rintro k cur wl33 ⟨⟨hk2, hcp, hq1, hq2, hlu, hld, hbs, hgP⟩, hxwl33⟩
    refine CW.sub (S' := [(92, _), (2, _), (3, _), (8, _), (9, _), (10, _), (11, _), (78, _), (79, _), (90, _), (91, _)]) ⟨rfl, rfl, rfl, rfl, rfl, rfl, rfl, rfl, rfl, rfl, rfl, trivial⟩ ?_
    have hcur : (L.set i cur)[i]? = some cur := by rw [List.getElem?_set_self (by omega)]
    refine CW.seq ?_
    refine CW.region ?_
    refine RG.vl rfl rfl rfl (Ev.lss rfl rfl rfl) ?_
    refine RG.done ?_
    refine QW.then_ ?_
    refine CW.seq ?_
    refine CW.condP rfl (fun hc34 => ?_) (fun hc34 => ?_)
    · refine CW.skip ?_
      refine QW.then_ ?_
      refine CW.seq ?_
      refine CW.block ?_
      refine CW.seq ?_
      rcases (show k = 0 ∨ k = 1 by omega) with rfl | rfl
      · refine CW.region ?_
        refine RG.vl rfl rfl rfl (Ev.idxN rfl rfl rfl Try.underlying36 sz_33 (by omega)) ?_
        refine RG.vl rfl rfl rfl (Ev.ldAt rfl rfl Try.underlying33 rfl (hgP.cells) (rfl)) ?_
        have hpc := Own.cells hbs Br.c_len hg21 hcur
        have hpcb : (((⟨g21, 0, none⟩ : Addr).add (i * 3)).block < wl33.heap.size) := by rw [block_of_add]; exact Own.lt hbs hg21
        have hcv : cur.up = b.up := hq1 (by decide)
        refine RG.vl rfl rfl rfl (Ev.assign rfl rfl) ?_
        refine RG.done ?_
        refine QW.then_ ?_
        refine CW.seq ?_
        refine CW.draw [] (.ex) 6 rfl mixed (fun wd35 hxwd35 => ?_)
        replace hxwl33 := Ex.tr hxwl33 hxwd35
        have hE36 := hxwd35
        refine AG.takeW 0 rfl (by kernel_rfl) (by kernel_rfl) rfl rfl rfl (fun _ => Ev.move rfl rfl) ?_
        refine AG.takeW 1 rfl (by kernel_rfl) (by kernel_rfl) rfl rfl rfl (fun _ => Ev.nilC rfl rfl) ?_
        refine AG.take 2 rfl (by kernel_rfl) (by kernel_rfl) rfl rfl rfl (fun wq hq => Ev.ldAt rfl rfl Try.underlying3 rfl ((hpc.ext hE36 hpcb).ext hq (Nat.lt_of_lt_of_le hpcb hE36.size)) (rfl)) ?_
        refine AG.takeW 3 rfl (by kernel_rfl) (by kernel_rfl) rfl rfl rfl (fun _ => Ev.fld rfl rfl fld_27_5) ?_
        refine AG.take 4 rfl (by kernel_rfl) (by kernel_rfl) rfl rfl rfl (fun wq hq => Ev.ldAt rfl rfl Try.underlying3 rfl (((hbS0.ext hxwl33).ext hq).cells) (rfl)) ?_
        refine AG.takeW 5 rfl (by kernel_rfl) (by kernel_rfl) rfl rfl rfl (fun _ => Ev.eqI rfl rfl rfl) ?_
        refine AG.done (by kernel_rfl) ?_
        refine QW.then_ ?_
        refine CW.condP rfl (fun hc37 => ?_) (fun hc37 => ?_)
        · refine CW.region ?_
          refine RG.vl rfl rfl rfl (Ev.move rfl rfl) ?_
          refine RG.vl rfl rfl rfl (Ev.nilC rfl rfl) ?_
          refine RG.vl rfl rfl rfl (Ev.ldAt rfl rfl Try.underlying3 rfl ((hpc.ext hE36 hpcb)) (rfl)) ?_
          refine RG.vl rfl rfl rfl (Ev.addI rfl rfl rfl (by omega)) ?_
          refine RG.vl rfl rfl rfl (Ev.nilC rfl rfl) ?_
          refine RG.stOw (g := g21) (⟨cur.po, cur.up + 100, cur.dn⟩) rfl rfl rfl rfl rfl sz_3 rfl (fun _ => rfl) (Own.ext hbs hE36) hg21 (hcur) rfl (rfl) (fun ws38 hwws38 hown39 => ?_)
          rw [List.set_set] at hown39
          replace hgP := Blk.far (hgP.ext hE36) hwws38 (fun e => hsb26 (by rw [e]; exact hg21))
          replace hxwl33 := Wr.below hxwl33 hwws38 hBg21
          refine RG.done ?_
          refine QW.sub (S' := [(2, _), (3, _), (8, _), (9, _), (10, _), (11, _), (78, _), (79, _), (90, _), (91, _), (92, _)]) ⟨rfl, rfl, rfl, rfl, rfl, rfl, rfl, rfl, rfl, rfl, rfl, trivial⟩ ?_
          refine QW.blockN ?_
          refine QW.then_ ?_
          refine CW.region ?_
          refine RG.vl rfl rfl rfl (Ev.addI rfl rfl rfl (by omega)) ?_
          refine RG.vl rfl rfl rfl (Ev.move rfl rfl) ?_
          refine RG.done ?_
          refine QW.round2 (0 + 1) (⟨cur.po, cur.up + 100, cur.dn⟩) ⟨rfl, trivial⟩ ⟨rfl, rfl, rfl, rfl, rfl, rfl, rfl, rfl, rfl, rfl, trivial⟩ ⟨⟨by omega, hcp, fun h => absurd h (by decide), fun _ => hq2 (by decide), by show LenOk s b.up _; rw [show cur.up = b.up from hcv]; exact lenok_up (by omega) (by omega) (by omega) (by omega), hld, hown39, hgP⟩, hxwl33⟩ (by omega)
        · refine CW.region ?_
          refine RG.vl rfl rfl rfl (Ev.move rfl rfl) ?_
          refine RG.vl rfl rfl rfl (Ev.move rfl rfl) ?_
          refine RG.vl rfl rfl rfl (Ev.nilC rfl rfl) ?_
          refine RG.vl rfl rfl rfl (Ev.ldAt rfl rfl Try.underlying3 rfl ((hpc.ext hE36 hpcb)) (rfl)) ?_
          refine RG.vl rfl rfl rfl (Ev.subI rfl rfl rfl (by omega)) ?_
          refine RG.vl rfl rfl rfl (Ev.max2 rfl rfl rfl rfl) ?_
          refine RG.vl rfl rfl rfl (Ev.nilC rfl rfl) ?_
          refine RG.stOw (g := g21) (⟨cur.po, max (cur.up - 100) 0, cur.dn⟩) rfl rfl rfl rfl rfl sz_3 rfl (fun _ => rfl) (Own.ext hbs hE36) hg21 (hcur) rfl (rfl) (fun ws40 hwws40 hown41 => ?_)
          rw [List.set_set] at hown41
          replace hgP := Blk.far (hgP.ext hE36) hwws40 (fun e => hsb26 (by rw [e]; exact hg21))
          replace hxwl33 := Wr.below hxwl33 hwws40 hBg21
          refine RG.done ?_
          refine QW.sub (S' := [(2, _), (3, _), (8, _), (9, _), (10, _), (11, _), (78, _), (79, _), (90, _), (91, _), (92, _)]) ⟨rfl, rfl, rfl, rfl, rfl, rfl, rfl, rfl, rfl, rfl, rfl, trivial⟩ ?_
          refine QW.blockN ?_
          refine QW.then_ ?_
          refine CW.region ?_
          refine RG.vl rfl rfl rfl (Ev.addI rfl rfl rfl (by omega)) ?_
          refine RG.vl rfl rfl rfl (Ev.move rfl rfl) ?_
          refine RG.done ?_
          refine QW.round2 (0 + 1) (⟨cur.po, max (cur.up - 100) 0, cur.dn⟩) ⟨rfl, trivial⟩ ⟨rfl, rfl, rfl, rfl, rfl, rfl, rfl, rfl, rfl, rfl, trivial⟩ ⟨⟨by omega, hcp, fun h => absurd h (by decide), fun _ => hq2 (by decide), by show LenOk s b.up _; rw [show cur.up = b.up from hcv]; exact lenok_dn (by omega) (by omega) (by omega) (by omega), hld, hown41, hgP⟩, hxwl33⟩ (by omega)
      · refine CW.region ?_
        refine RG.vl rfl rfl rfl (Ev.idxN rfl rfl rfl Try.underlying36 sz_33 (by omega)) ?_
        refine RG.vl rfl rfl rfl (Ev.ldAt rfl rfl Try.underlying33 rfl (hgP.cells) (rfl)) ?_
        have hpc := Own.cells hbs Br.c_len hg23 hcur
        have hpcb : (((⟨g23, 0, none⟩ : Addr).add (i * 3)).block < wl33.heap.size) := by rw [block_of_add]; exact Own.lt hbs hg23
        have hcv : cur.dn = b.dn := hq2 (by decide)
        refine RG.vl rfl rfl rfl (Ev.assign rfl rfl) ?_
        refine RG.done ?_
        refine QW.then_ ?_
        refine CW.seq ?_
        refine CW.draw [] (.ex) 6 rfl mixed (fun wd42 hxwd42 => ?_)
        replace hxwl33 := Ex.tr hxwl33 hxwd42
        have hE43 := hxwd42
        refine AG.takeW 0 rfl (by kernel_rfl) (by kernel_rfl) rfl rfl rfl (fun _ => Ev.move rfl rfl) ?_
        refine AG.takeW 1 rfl (by kernel_rfl) (by kernel_rfl) rfl rfl rfl (fun _ => Ev.nilC rfl rfl) ?_
        refine AG.take 2 rfl (by kernel_rfl) (by kernel_rfl) rfl rfl rfl (fun wq hq => Ev.ldAt rfl rfl Try.underlying3 rfl ((hpc.ext hE43 hpcb).ext hq (Nat.lt_of_lt_of_le hpcb hE43.size)) (rfl)) ?_
        refine AG.takeW 3 rfl (by kernel_rfl) (by kernel_rfl) rfl rfl rfl (fun _ => Ev.fld rfl rfl fld_27_5) ?_
        refine AG.take 4 rfl (by kernel_rfl) (by kernel_rfl) rfl rfl rfl (fun wq hq => Ev.ldAt rfl rfl Try.underlying3 rfl (((hbS0.ext hxwl33).ext hq).cells) (rfl)) ?_
        refine AG.takeW 5 rfl (by kernel_rfl) (by kernel_rfl) rfl rfl rfl (fun _ => Ev.eqI rfl rfl rfl) ?_
        refine AG.done (by kernel_rfl) ?_
        refine QW.then_ ?_
        refine CW.condP rfl (fun hc44 => ?_) (fun hc44 => ?_)
        · refine CW.region ?_
          refine RG.vl rfl rfl rfl (Ev.move rfl rfl) ?_
          refine RG.vl rfl rfl rfl (Ev.nilC rfl rfl) ?_
          refine RG.vl rfl rfl rfl (Ev.ldAt rfl rfl Try.underlying3 rfl ((hpc.ext hE43 hpcb)) (rfl)) ?_
          refine RG.vl rfl rfl rfl (Ev.addI rfl rfl rfl (by omega)) ?_
          refine RG.vl rfl rfl rfl (Ev.nilC rfl rfl) ?_
          refine RG.stOw (g := g23) (⟨cur.po, cur.up, cur.dn + 100⟩) rfl rfl rfl rfl rfl sz_3 rfl (fun _ => rfl) (Own.ext hbs hE43) hg23 (hcur) rfl (rfl) (fun ws45 hwws45 hown46 => ?_)
          rw [List.set_set] at hown46
          replace hgP := Blk.far (hgP.ext hE43) hwws45 (fun e => hsb26 (by rw [e]; exact hg23))
          replace hxwl33 := Wr.below hxwl33 hwws45 hBg23
          refine RG.done ?_
          refine QW.sub (S' := [(2, _), (3, _), (8, _), (9, _), (10, _), (11, _), (78, _), (79, _), (90, _), (91, _), (92, _)]) ⟨rfl, rfl, rfl, rfl, rfl, rfl, rfl, rfl, rfl, rfl, rfl, trivial⟩ ?_
          refine QW.blockN ?_
          refine QW.then_ ?_
          refine CW.region ?_
          refine RG.vl rfl rfl rfl (Ev.addI rfl rfl rfl (by omega)) ?_
          refine RG.vl rfl rfl rfl (Ev.move rfl rfl) ?_
          refine RG.done ?_
          refine QW.round2 (1 + 1) (⟨cur.po, cur.up, cur.dn + 100⟩) ⟨rfl, trivial⟩ ⟨rfl, rfl, rfl, rfl, rfl, rfl, rfl, rfl, rfl, rfl, trivial⟩ ⟨⟨by omega, hcp, fun h => absurd h (by decide), fun h => absurd h (by decide), hlu, by show LenOk s b.dn _; rw [show cur.dn = b.dn from hcv]; exact lenok_up (by omega) (by omega) (by omega) (by omega), hown46, hgP⟩, hxwl33⟩ (by omega)
        · refine CW.region ?_
          refine RG.vl rfl rfl rfl (Ev.move rfl rfl) ?_
          refine RG.vl rfl rfl rfl (Ev.move rfl rfl) ?_
          refine RG.vl rfl rfl rfl (Ev.nilC rfl rfl) ?_
          refine RG.vl rfl rfl rfl (Ev.ldAt rfl rfl Try.underlying3 rfl ((hpc.ext hE43 hpcb)) (rfl)) ?_
          refine RG.vl rfl rfl rfl (Ev.subI rfl rfl rfl (by omega)) ?_
          refine RG.vl rfl rfl rfl (Ev.max2 rfl rfl rfl rfl) ?_
          refine RG.vl rfl rfl rfl (Ev.nilC rfl rfl) ?_
          refine RG.stOw (g := g23) (⟨cur.po, cur.up, max (cur.dn - 100) 0⟩) rfl rfl rfl rfl rfl sz_3 rfl (fun _ => rfl) (Own.ext hbs hE43) hg23 (hcur) rfl (rfl) (fun ws47 hwws47 hown48 => ?_)
          rw [List.set_set] at hown48
          replace hgP := Blk.far (hgP.ext hE43) hwws47 (fun e => hsb26 (by rw [e]; exact hg23))
          replace hxwl33 := Wr.below hxwl33 hwws47 hBg23
          refine RG.done ?_
          refine QW.sub (S' := [(2, _), (3, _), (8, _), (9, _), (10, _), (11, _), (78, _), (79, _), (90, _), (91, _), (92, _)]) ⟨rfl, rfl, rfl, rfl, rfl, rfl, rfl, rfl, rfl, rfl, rfl, trivial⟩ ?_
          refine QW.blockN ?_
          refine QW.then_ ?_
          refine CW.region ?_
          refine RG.vl rfl rfl rfl (Ev.addI rfl rfl rfl (by omega)) ?_
          refine RG.vl rfl rfl rfl (Ev.move rfl rfl) ?_
          refine RG.done ?_
          refine QW.round2 (1 + 1) (⟨cur.po, cur.up, max (cur.dn - 100) 0⟩) ⟨rfl, trivial⟩ ⟨rfl, rfl, rfl, rfl, rfl, rfl, rfl, rfl, rfl, rfl, trivial⟩ ⟨⟨by omega, hcp, fun h => absurd h (by decide), fun h => absurd h (by decide), hlu, by show LenOk s b.dn _; rw [show cur.dn = b.dn from hcv]; exact lenok_dn (by omega) (by omega) (by omega) (by omega), hown48, hgP⟩, hxwl33⟩ (by omega)
    · refine CW.exit ?_
      refine QW.thenExit ?_
      refine QW.thenExit ?_
      refine QW.blockHit ?_
      refine QW.blockN ?_
      refine QW.then_ ?_
      refine CW.region ?_
      refine RG.vl rfl rfl rfl (Ev.addI rfl rfl rfl (by omega)) ?_
      refine RG.vl rfl rfl rfl (Ev.move rfl rfl) ?_
      refine RG.done ?_
      refine QW.round2 (i + 1) (L.set i cur) ⟨rfl, trivial⟩ ⟨rfl, rfl, rfl, rfl, rfl, rfl, rfl, trivial⟩ ⟨⟨by omega, by rw [List.length_set]; exact hLl, rel_step hLen hb ⟨hcp, hlu, hld⟩, tail_step hLt, hbs⟩, hxwl33⟩ (by omega)
  · refine CW.exit ?_
    refine QW.thenExit ?_
    refine QW.thenExit ?_
    refine QW.blockHit ?_
    refine QW.then_ ?_
    refine CW.seq ?_
    obtain ⟨hRL, hmg0, hbd⟩ := back_len hok (by omega) (by omega) (by omega) (by omega) hR hT1 (fun k b hb => by obtain ⟨x, h1, h2, h3, h4⟩ := hmk k b hb; exact ⟨k, x, h1, h2, h3, h4⟩) hLl hLen
    have he1 := hRL.err hok
    have hmgt := margin_top s L
    have hL64 : L.length = 64 := by omega
    refine CW.region ?_
    refine RG.vl rfl rfl rfl (Ev.ldAgg rfl rfl Try.underlying27 rfl sz_27 rfl ((hbS0.ext hxwl16).cells)) ?_
    refine RG.vl rfl rfl rfl (Ev.move rfl rfl) ?_
    refine RG.call rfl rfl rfl rfl rfl rfl rfl en_10 (margin_is s _ L _ ((hbs.rdl Br.c_len)) (by omega) he1) ?_
    rintro _ w49 ⟨rfl, hx49⟩
    replace hxwl16 := Ex.tr hxwl16 hx49
    have hE50 := hx49
    refine RG.vl rfl rfl rfl (Ev.move rfl rfl) ?_
    refine RG.vl rfl rfl rfl (Ev.extract rfl rfl rfl) ?_
    refine RG.vl rfl rfl rfl (Ev.extract rfl rfl rfl) ?_
    refine RG.vl rfl rfl rfl (Ev.assign rfl rfl) ?_
    refine RG.vl rfl rfl rfl (Ev.assign rfl rfl) ?_
    refine RG.done ?_
    refine QW.then_ ?_
    refine CW.seq ?_
    refine CW.seq ?_
    refine CW.region ?_
    refine RG.vl rfl rfl rfl (Ev.move rfl rfl) ?_
    refine RG.vl rfl rfl rfl (Ev.isF (Ev.neI rfl rfl rfl) (fun h => h rfl)) ?_
    refine RG.done ?_
    refine QW.then_ ?_
    refine CW.condF rfl ?_
    refine CW.skip ?_
    refine QW.then_ ?_
    refine CW.seq ?_
    refine CW.region ?_
    refine RG.vl rfl rfl rfl (Ev.move rfl rfl) ?_
    refine RG.vl rfl rfl rfl (Ev.lenL rfl rfl rfl Try.underlying29 (((Own.ext hbs hE50).rdl Br.c_len))) ?_
    replace hl := (hl.ext hxwl16)
    replace hn := (hn.ext hxwl16)
    replace hm := (hm.ext hxwl16)
    replace hb1 := (hb1.ext hxwl16)
    replace hbS0 := (hbS0.ext hxwl16)
    replace hbs := (Own.ext hbs hE50)
    have hR54 := (Ex.tr hR12 hxwl16)
    have hR55 := (Ex.tr hR13 hxwl16)
    have hR56 := hxwl16
    have hR57 := hE50
    refine RG.makeO (m := 64) (enc := encT) false rfl rfl rfl rfl rfl rfl (by omega) Try.underlying39 inf_4 encT_len rfl rfl (by omega) (by simp only [maxLen]; omega) (fun vG wk51 hxwk51 hown52 hnew53 => ?_)
    have hsep58 : Sep vG _ := Sep.of_new hbs hnew53
    have hE59 := hxwk51
    refine RG.vl rfl rfl rfl (Ev.assign rfl rfl) ?_
    refine RG.done ?_
    refine QW.sub (S' := [(2, _), (3, _), (8, _), (9, _), (10, _), (11, _), (16, _), (18, _)]) ⟨rfl, rfl, rfl, rfl, rfl, rfl, rfl, rfl, trivial⟩ ?_
    refine QW.then_ ?_
    refine CW.seq ?_
    refine CW.seq ?_
    refine CW.region ?_
    refine RG.vl rfl rfl rfl (Ev.move rfl rfl) ?_
    refine RG.vl rfl rfl rfl (Ev.move rfl rfl) ?_
    refine RG.vl rfl rfl rfl (Ev.lenL rfl rfl rfl Try.underlying22 ((hm.ext hE59))) ?_
    refine RG.vl rfl rfl rfl ((Ev.min2 rfl rfl rfl rfl).conv (congrArg (Value.int .i64) (show min ((lm.length : Nat) : Int) 4 = ((min lm.length 4 : Nat) : Int) by omega))) ?_
    refine RG.sliceL (L := 0) (H := min lm.length 4) _ rfl rfl rfl rfl rfl Try.underlying22 sz_5 (hm) (.inl ⟨rfl, rfl⟩) (.inr ⟨_, _, _, rfl, rfl, by omega⟩) (by omega) (by omega) (fun v60 hrv60 => ?_)
    rw [take_minH] at hrv60
    have hTl : (lm.take 4).length ≤ 4 := by rw [List.length_take]; omega
    have hTb : ∀ a ∈ lm.take 4, a < 256 := fun a ha => hmb a (List.mem_of_mem_take ha)
    generalize lm.take 4 = ms at *
    refine RG.vl rfl rfl rfl (Ev.lenL rfl rfl rfl Try.underlying22 ((hrv60.ext hE59))) ?_
    refine RG.vl rfl rfl rfl (Ev.move rfl rfl) ?_
    refine RG.done ?_
    refine QW.then_ ?_
    refine CW.block ?_
    refine CW.loop1 [(2, _), (8, _), (9, _), (10, _), (11, _), (16, _), (18, _), (131, _), (132, _)] ⟨rfl, rfl, rfl, rfl, rfl, rfl, rfl, rfl, rfl, trivial⟩ (fun (i : Nat) => [(133, .int .i64 i)]) (fun i w' => (i ≤ ms.length ∧ Own w' w49.heap.size 4 1 encT vG (goneL (ms.take i))) ∧ Ex w49 w') (fun i => ms.length - i) (0) ⟨rfl, trivial⟩ ⟨⟨Nat.zero_le _, by rw [List.take_zero, goneL_nil]; exact hown52⟩, hE59⟩ ?_
    rintro i wl61 ⟨⟨hi, hG⟩, hxwl61⟩
    refine CW.sub (S' := [(133, _), (2, _), (8, _), (9, _), (10, _), (11, _), (16, _), (18, _), (131, _), (132, _)]) ⟨rfl, rfl, rfl, rfl, rfl, rfl, rfl, rfl, rfl, rfl, trivial⟩ ?_
    refine CW.seq ?_
    refine CW.region ?_
    refine RG.vl rfl rfl rfl (Ev.lss rfl rfl rfl) ?_
    refine RG.done ?_
    refine QW.then_ ?_
    refine CW.seq ?_
    refine CW.condP rfl (fun hc62 => ?_) (fun hc62 => ?_)
    · refine CW.skip ?_
      refine QW.then_ ?_
      refine CW.seq ?_
      refine CW.block ?_
      refine CW.seq ?_
      obtain ⟨m, hx⟩ : ∃ m, ms[i]? = some m := ⟨_, List.getElem?_eq_getElem (by omega)⟩
      have hm60 := Nat.mod_lt m (show 60 > 0 by decide)
      have hm256 := hTb m (List.mem_of_getElem? hx)
      refine CW.region ?_
      refine RG.idxL rfl rfl rfl rfl rfl rfl Try.underlying22 sz_5 ((hrv60.ext hxwl61)) (hx) (fun p63 hp63b hp63 => ?_)
      refine RG.vl rfl rfl rfl (Ev.ld0 rfl rfl Try.underlying5 rfl (hp63) (rfl)) ?_
      refine RG.vl rfl rfl rfl (Ev.assign rfl rfl) ?_
      refine RG.done ?_
      refine QW.then_ ?_
      refine CW.region ?_
      refine RG.vl rfl rfl rfl (Ev.move rfl rfl) ?_
      refine RG.vl rfl rfl rfl (Ev.move rfl rfl) ?_
      refine RG.vl rfl rfl rfl (Ev.to64 rfl rfl Try.underlying5 Try.underlying3 (by omega)) ?_
      refine RG.vl rfl rfl rfl ((Ev.remI rfl rfl rfl (by omega)).conv (congrArg (Value.int .i64) (show (m : Int) % 60 = ((m % 60 : Nat) : Int) by omega))) ?_
      refine RG.vl rfl rfl rfl ((Ev.addI rfl rfl rfl (by omega)).conv (congrArg (Value.int .i64) (show (2 : Int) + ((m % 60 : Nat) : Int) = ((2 + m % 60 : Nat) : Int) by omega))) ?_
      refine RG.idxO rfl rfl rfl rfl rfl rfl Try.underlying39 sz_4 encT_len (hG) ((goneL_at _ (by omega))) (fun g65 hg65 hBg65 hp64b hp64 => ?_)
      refine RG.stOw0 (g := g65) (true) rfl rfl rfl rfl rfl sz_4 rfl (fun _ => rfl) hG hg65 ((goneL_at _ (by omega))) rfl (rfl) (fun ws66 hwws66 hown67 => ?_)
      replace hxwl61 := Wr.below hxwl61 hwws66 hBg65
      refine RG.done ?_
      refine QW.blockN ?_
      refine QW.then_ ?_
      refine CW.region ?_
      refine RG.vl rfl rfl rfl (Ev.addI rfl rfl rfl (by omega)) ?_
      refine RG.vl rfl rfl rfl (Ev.move rfl rfl) ?_
      refine RG.done ?_
      refine QW.round1 (i + 1) ⟨rfl, trivial⟩ ⟨rfl, rfl, rfl, rfl, rfl, rfl, rfl, rfl, rfl, trivial⟩ ⟨⟨by omega, by rw [goneL_more hx]; exact hown67⟩, hxwl61⟩ (by omega)
    · refine CW.exit ?_
      refine QW.thenExit ?_
      refine QW.thenExit ?_
      refine QW.blockHit ?_
      refine QW.then_ ?_
      refine CW.seq ?_
      obtain rfl : i = ms.length := by omega
      rw [List.take_length] at hG
      refine CW.region ?_
      refine RG.vl rfl rfl rfl (Ev.assign rfl rfl) ?_
      refine RG.done ?_
      refine QW.then_ ?_
      refine CW.seq ?_
      refine CW.region ?_
      replace hl := (hl.ext hxwl61)
      replace hn := (hn.ext hxwl61)
      replace hm := (hm.ext hxwl61)
      replace hb1 := (hb1.ext hxwl61)
      replace hbS0 := (hbS0.ext hxwl61)
      replace hbs := (Own.ext hbs hxwl61)
      replace hrv60 := (hrv60.ext hxwl61)
      have hR71 := (Ex.tr hR54 hxwl61)
      have hR72 := (Ex.tr hR55 hxwl61)
      have hR73 := (Ex.tr hR56 hxwl61)
      have hR74 := (Ex.tr hR57 hxwl61)
      have hR75 := hxwl61
      refine RG.makeO (m := 20) (enc := encT) false rfl rfl rfl rfl rfl rfl (rfl) Try.underlying39 inf_4 encT_len rfl rfl (by omega) (by simp only [maxLen]; omega) (fun vH wk68 hxwk68 hown69 hnew70 => ?_)
      have hsep76 : Sep vH _ := Sep.of_new hbs hnew70
      have hsep77 : Sep vH _ := Sep.of_new hG hnew70
      have hE78 := hxwk68
      refine RG.vl rfl rfl rfl (Ev.assign rfl rfl) ?_
      refine RG.done ?_
      refine QW.then_ ?_
      refine CW.seq ?_
      refine CW.seq ?_
      refine CW.region ?_
      refine RG.vl rfl rfl rfl (Ev.move rfl rfl) ?_
      refine RG.vl rfl rfl rfl (Ev.lenL rfl rfl rfl Try.underlying29 (((Own.ext hbs hE78).rdl Br.c_len))) ?_
      refine RG.vl rfl rfl rfl (Ev.move rfl rfl) ?_
      refine RG.done ?_
      refine QW.then_ ?_
      refine CW.block ?_
      refine CW.loop3 [(2, _), (8, _), (9, _), (10, _), (16, _), (18, _), (22, _), (145, _), (146, _)] ⟨rfl, rfl, rfl, rfl, rfl, rfl, rfl, rfl, rfl, trivial⟩ (fun (i : Nat) (M : List Br) (uB : Value) => [(147, .int .i64 i), (21, uB)]) (fun i M uB w' => (i ≤ L.length ∧ Kept s (frm (wd c)) ms i M ∧ Own w' wl61.heap.size 35 3 Br.c uB M ∧ Own w' wl61.heap.size 4 1 encT vH (hitsL ms i) ∧ Sep uB vH) ∧ Ex wl61 w') (fun i M uB => L.length - i) (0) ([]) (.slice none 0 0) ⟨rfl, rfl, trivial⟩ ⟨⟨Nat.zero_le _, kept_zero ms hT1, Own.nil_ _ _ _ _ _, by rw [hitsL_zero]; exact hown69, Sep.nil_ _⟩, hE78⟩ ?_
      rintro i M uB wl79 ⟨⟨hi, hK, hM, hH, hsp⟩, hxwl79⟩
      refine CW.sub (S' := [(147, _), (21, _), (2, _), (8, _), (9, _), (10, _), (16, _), (18, _), (22, _), (145, _), (146, _)]) ⟨rfl, rfl, rfl, rfl, rfl, rfl, rfl, rfl, rfl, rfl, rfl, trivial⟩ ?_
      refine CW.seq ?_
      refine CW.region ?_
      refine RG.vl rfl rfl rfl (Ev.lss rfl rfl rfl) ?_
      refine RG.done ?_
      refine QW.then_ ?_
      refine CW.seq ?_
      refine CW.condP rfl (fun hc80 => ?_) (fun hc80 => ?_)
      · refine CW.skip ?_
        refine QW.then_ ?_
        refine CW.seq ?_
        refine CW.block ?_
        refine CW.seq ?_
        obtain ⟨b, hb⟩ : ∃ b, L[i]? = some b := ⟨_, List.getElem?_eq_getElem (by omega)⟩
        obtain ⟨⟨bb1, bb2⟩, ⟨bb3, bb4⟩, bb5, bb6⟩ := hbd b (List.mem_of_getElem? hb)
        obtain ⟨b0, hb0⟩ : ∃ b0, bs[i]? = some b0 := ⟨_, List.getElem?_eq_getElem (by omega)⟩
        obtain ⟨x1, hx1, hx2, hx3, hbe⟩ := hmk i b0 hb0
        have hLn := hLen i b0 b hb0 hb
        rw [hbe] at hLn
        have hKl := hK.len
        refine CW.region ?_
        refine RG.vl rfl rfl rfl (Ev.move rfl rfl) ?_
        refine RG.idxO rfl rfl rfl rfl rfl rfl Try.underlying29 sz_35 Br.c_len ((Own.ext hbs hxwl79)) (hb) (fun g82 hg82 hBg82 hp81b hp81 => ?_)
        refine RG.vl rfl rfl rfl (Ev.ldAgg rfl rfl Try.underlying35 rfl sz_35 rfl (hp81)) ?_
        replace hl := (hl.ext hxwl79)
        replace hn := (hn.ext hxwl79)
        replace hm := (hm.ext hxwl79)
        replace hb1 := (hb1.ext hxwl79)
        replace hbS0 := (hbS0.ext hxwl79)
        replace hbs := (Own.ext hbs hxwl79)
        replace hrv60 := (hrv60.ext hxwl79)
        replace hG := (Own.ext hG hxwl79)
        have hR83 := (Ex.tr hR71 hxwl79)
        have hR84 := (Ex.tr hR72 hxwl79)
        have hR85 := (Ex.tr hR73 hxwl79)
        have hR86 := (Ex.tr hR74 hxwl79)
        have hR87 := (Ex.tr hR75 hxwl79)
        have hR88 := hxwl79
        refine RG.alloc_ rfl rfl rfl rfl inf_35 (fun gB w89 egB hx89 hb89 => ?_)
        have hsb90 := fun e => sep_new (g := gB) hbs egB e
        have hsb91 := fun e => sep_new (g := gB) hG egB e
        have hsb92 := fun e => sep_new (g := gB) hM egB e
        have hsb93 := fun e => sep_new (g := gB) hH egB e
        have hle94 : wl79.heap.size ≤ gB := by have := (Ex.rfl_ wl79).size; omega
        have hlt95 : gF < gB := by have := Blk.lt hb1; omega
        have hlt96 : gS < gB := by have := Blk.lt hbS0; omega
        have hE97 := hx89
        refine RG.vl rfl rfl rfl (Ev.assign rfl rfl) ?_
        refine RG.stAll (g := gB) rfl rfl rfl rfl rfl sz_35 rfl rfl rfl hb89 (fun ws98 hwws98 hbws98 => ?_)
        replace hE97 := Wr.below hE97 hwws98 hle94
        refine RG.done ?_
        refine QW.then_ ?_
        refine CW.seq ?_
        refine CW.seq ?_
        refine CW.region ?_
        refine RG.vl rfl rfl rfl (Ev.move rfl rfl) ?_
        refine RG.vl rfl rfl rfl (Ev.move rfl rfl) ?_
        refine RG.idxO rfl rfl rfl rfl rfl rfl Try.underlying39 sz_4 encT_len ((Own.ext hG hE97)) ((goneL_at _ (by omega))) (fun g100 hg100 hBg100 hp99b hp99 => ?_)
        refine RG.vl rfl rfl rfl (Ev.ld0 rfl rfl Try.underlying4 rfl (hp99) (rfl)) ?_
        refine RG.done ?_
        refine QW.then_ ?_
        refine CW.cond rfl (fun hc101 => ?_) (fun hc101 => ?_)
        · refine CW.seq ?_
          have hg : goneB ms i = true := by assumption
          have hin := goneB_in hg
          refine CW.region ?_
          refine RG.vl rfl rfl rfl (Ev.move rfl rfl) ?_
          refine RG.vl rfl rfl rfl (Ev.move rfl rfl) ?_
          refine RG.vl rfl rfl rfl ((Ev.subI rfl rfl rfl (by omega)).conv (congrArg (Value.int .i64) (show (i : Int) - 2 = ((i - 2 : Nat) : Int) by omega))) ?_
          refine RG.vl rfl rfl rfl ((Ev.quoI rfl rfl rfl (by omega)).conv (congrArg (Value.int .i64) (show ((i - 2 : Nat) : Int) / 3 = (((i - 2) / 3 : Nat) : Int) by omega))) ?_
          refine RG.idxO rfl rfl rfl rfl rfl rfl Try.underlying39 sz_4 encT_len ((Own.ext hH hE97)) ((hitsL_at _ _ (by omega))) (fun g103 hg103 hBg103 hp102b hp102 => ?_)
          refine RG.stOw0 (g := g103) (true) rfl rfl rfl rfl rfl sz_4 rfl (fun _ => rfl) (Own.ext hH hE97) hg103 ((hitsL_at _ _ (by omega))) rfl (rfl) (fun ws104 hwws104 hown105 => ?_)
          replace hbs := Own.far (Own.ext hbs hE97) hwws104 (fun e => hsep76 _ hg103 e)
          replace hG := Own.far (Own.ext hG hE97) hwws104 (fun e => hsep77 _ hg103 e)
          replace hM := Own.far (Own.ext hM hE97) hwws104 (fun e => (Sep.symm hsp) _ hg103 e)
          replace hbws98 := Blk.far hbws98 hwws104 (fun e => hsb93 (by rw [e]; exact hg103))
          have hE106 := Wr.below (Ex.tr hR88 hE97) hwws104 hBg103
          refine RG.done ?_
          refine QW.sub (S' := [(2, _), (8, _), (9, _), (10, _), (16, _), (18, _), (21, _), (22, _), (23, _), (24, _), (145, _), (146, _), (147, _)]) ⟨rfl, rfl, rfl, rfl, rfl, rfl, rfl, rfl, rfl, rfl, rfl, rfl, rfl, trivial⟩ ?_
          refine QW.then_ ?_
          refine CW.exit ?_
          refine QW.thenExit ?_
          refine QW.blockHit ?_
          refine QW.then_ ?_
          refine CW.region ?_
          refine RG.vl rfl rfl rfl (Ev.addI rfl rfl rfl (by omega)) ?_
          refine RG.vl rfl rfl rfl (Ev.move rfl rfl) ?_
          refine RG.done ?_
          refine QW.round3 (i + 1) (M) (uB) ⟨rfl, rfl, trivial⟩ ⟨rfl, rfl, rfl, rfl, rfl, rfl, rfl, rfl, rfl, trivial⟩ ⟨⟨by omega, kept_no hK hg, hM, by rw [hitsL_yes hg]; exact hown105, hsp⟩, hE106⟩ (by omega)
        · refine CW.skip ?_
          refine QW.then_ ?_
          refine CW.seq ?_
          refine CW.seq ?_
          have hg : goneB ms i = false := by assumption
          refine CW.region ?_
          refine RG.vl rfl rfl rfl (Ev.fld rfl rfl fld_35_0) ?_
          refine RG.vl rfl rfl rfl (Ev.fld rfl rfl fld_35_1) ?_
          refine RG.vl rfl rfl rfl (Ev.fld rfl rfl fld_35_2) ?_
          refine RG.buildD (xs := [.tmp 161, .tmp 162, .tmp 163]) rfl rfl rfl rfl rfl rfl rfl Try.underlying36 inf_33 rfl rfl rfl rfl (fun gQ w107 egQ hx107 hb107 => ?_)
          have hsb108 := fun e => sep_new (g := gQ) (Own.ext hbs hE97) egQ e
          have hsb109 := fun e => sep_new (g := gQ) (Own.ext hG hE97) egQ e
          have hsb110 := fun e => sep_new (g := gQ) (Own.ext hM hE97) egQ e
          have hsb111 := fun e => sep_new (g := gQ) (Own.ext hH hE97) egQ e
          have hle112 : wl79.heap.size ≤ gQ := by have := hE97.size; omega
          have hle113 : ws98.heap.size ≤ gQ := by have := (Ex.rfl_ ws98).size; omega
          have hlt114 : gF < gQ := by have := Blk.lt (hb1.ext hE97); omega
          have hlt115 : gS < gQ := by have := Blk.lt (hbS0.ext hE97); omega
          have hlt116 : gB < gQ := by have := Blk.lt hbws98; omega
          replace hE97 := Ex.tr hE97 hx107
          have hE117 := hx107
          refine RG.vl rfl rfl rfl (Ev.lenSlice rfl rfl rfl Try.underlying36) ?_
          refine RG.vl rfl rfl rfl (Ev.move rfl rfl) ?_
          refine RG.done ?_
          refine QW.sub (S' := [(2, _), (8, _), (9, _), (10, _), (16, _), (18, _), (21, _), (22, _), (23, _), (24, _), (145, _), (146, _), (147, _), (164, _), (165, _), (166, _)]) ⟨rfl, rfl, rfl, rfl, rfl, rfl, rfl, rfl, rfl, rfl, rfl, rfl, rfl, rfl, rfl, rfl, trivial⟩ ?_
          refine QW.then_ ?_
          refine CW.block ?_
          refine CW.loop2 [(2, _), (8, _), (9, _), (10, _), (16, _), (18, _), (21, _), (22, _), (23, _), (24, _), (145, _), (146, _), (147, _), (164, _), (165, _)] ⟨rfl, rfl, rfl, rfl, rfl, rfl, rfl, rfl, rfl, rfl, rfl, rfl, rfl, rfl, rfl, trivial⟩ (fun (k : Nat) (cur : Br) => [(166, .int .i64 k)]) (fun k cur w' => (k ≤ 3 ∧ (k = 0 → cur.po = b.po) ∧ (k ≤ 1 → cur.up = b.up) ∧ (k ≤ 2 → cur.dn = b.dn) ∧ Shk (marginOf s L) b.po cur.po ∧ Shk (marginOf s L) b.up cur.up ∧ Shk (marginOf s L) b.dn cur.dn ∧ Blk w' gB 35 (Br.c cur) ∧ Blk w' gQ 33 [.pointer (some ((⟨gB, 0, none⟩ : Addr).add 0)), .pointer (some ((⟨gB, 0, none⟩ : Addr).add 1)), .pointer (some ((⟨gB, 0, none⟩ : Addr).add 2))]) ∧ Ex wl79 w') (fun k cur => 3 - k) (0) (b) ⟨rfl, trivial⟩ ⟨⟨by omega, fun _ => rfl, fun _ => rfl, fun _ => rfl, shk_self (by omega) hmg0, shk_self (by omega) hmg0, shk_self (by omega) hmg0, (hbws98.ext hE117), hb107⟩, hE97⟩ ?_
          rintro k cur wl118 ⟨⟨hk3, hq0, hq1, hq2, hs0, hs1, hs2, hgB, hgQ⟩, hxwl118⟩
          refine CW.sub (S' := [(166, _), (2, _), (8, _), (9, _), (10, _), (16, _), (18, _), (21, _), (22, _), (23, _), (24, _), (145, _), (146, _), (147, _), (164, _), (165, _)]) ⟨rfl, rfl, rfl, rfl, rfl, rfl, rfl, rfl, rfl, rfl, rfl, rfl, rfl, rfl, rfl, rfl, trivial⟩ ?_
          refine CW.seq ?_
          refine CW.region ?_
          refine RG.vl rfl rfl rfl (Ev.lss rfl rfl rfl) ?_
          refine RG.done ?_
          refine QW.then_ ?_
          refine CW.seq ?_
          refine CW.condP rfl (fun hc119 => ?_) (fun hc119 => ?_)
          · refine CW.skip ?_
            refine QW.then_ ?_
            refine CW.seq ?_
            refine CW.block ?_
            refine CW.seq ?_
            rcases (show k = 0 ∨ k = 1 ∨ k = 2 by omega) with rfl | rfl | rfl
            · refine CW.region ?_
              refine RG.vl rfl rfl rfl (Ev.move rfl rfl) ?_
              refine RG.vl rfl rfl rfl (Ev.idxN rfl rfl rfl Try.underlying36 sz_33 (by omega)) ?_
              refine RG.vl rfl rfl rfl (Ev.ldAt rfl rfl Try.underlying33 rfl (hgQ.cells) (rfl)) ?_
              have hcv : cur.po = b.po := hq0 rfl
              refine RG.vl rfl rfl rfl (Ev.assign rfl rfl) ?_
              refine RG.vl rfl rfl rfl (Ev.assign rfl rfl) ?_
              refine RG.done ?_
              refine QW.then_ ?_
              refine CW.seq ?_
              refine CW.region ?_
              refine RG.vl rfl rfl rfl (Ev.move rfl rfl) ?_
              refine RG.vl rfl rfl rfl (Ev.lenL rfl rfl rfl Try.underlying25 ((hn.ext hxwl118))) ?_
              refine RG.vl rfl rfl rfl (Ev.gtr rfl rfl rfl) ?_
              refine RG.done ?_
              refine QW.then_ ?_
              refine CW.condP rfl (fun hc120 => ?_) (fun hc120 => ?_)
              · refine CW.seq ?_
                obtain ⟨kk, hkk⟩ : ∃ kk : Nat, (3 * (i : Int) + ((0 : Nat) : Int)) % (ln.length : Int) = (kk : Int) := ⟨((3 * (i : Int) + ((0 : Nat) : Int)) % (ln.length : Int)).toNat, by have := Int.emod_nonneg (3 * (i : Int) + ((0 : Nat) : Int)) (show (ln.length : Int) ≠ 0 by omega); omega⟩
                have hkl := Int.emod_lt_of_pos (3 * (i : Int) + ((0 : Nat) : Int)) (show (0 : Int) < (ln.length : Int) by omega)
                obtain ⟨x, hx⟩ : ∃ x, ln[kk]? = some x := ⟨_, List.getElem?_eq_getElem (by omega)⟩
                obtain ⟨x1, x2⟩ := bounds_i8 x.2
                refine CW.region ?_
                refine RG.vl rfl rfl rfl (Ev.move rfl rfl) ?_
                refine RG.vl rfl rfl rfl (Ev.move rfl rfl) ?_
                refine RG.vl rfl rfl rfl (Ev.mulI rfl rfl rfl (by omega)) ?_
                refine RG.vl rfl rfl rfl (Ev.move rfl rfl) ?_
                refine RG.vl rfl rfl rfl (Ev.addI rfl rfl rfl (by omega)) ?_
                refine RG.vl rfl rfl rfl (Ev.move rfl rfl) ?_
                refine RG.vl rfl rfl rfl (Ev.lenL rfl rfl rfl Try.underlying25 ((hn.ext hxwl118))) ?_
                refine RG.vl rfl rfl rfl ((Ev.remI rfl rfl rfl (by omega)).conv (congrArg (Value.int .i64) hkk)) ?_
                refine RG.idxL rfl rfl rfl rfl rfl rfl Try.underlying25 sz_40 ((hn.ext hxwl118)) (hx) (fun p121 hp121b hp121 => ?_)
                refine RG.vl rfl rfl rfl (Ev.ld0 rfl rfl Try.underlying40 rfl (hp121) (rfl)) ?_
                refine RG.vl rfl rfl rfl (Ev.to64 rfl rfl Try.underlying40 Try.underlying3 (by omega)) ?_
                refine RG.vl rfl rfl rfl (Ev.assign rfl rfl) ?_
                refine RG.done ?_
                refine QW.sub (S' := [(2, _), (8, _), (9, _), (10, _), (16, _), (18, _), (21, _), (22, _), (23, _), (24, _), (26, _), (27, _), (145, _), (146, _), (147, _), (164, _), (165, _), (166, _)]) ⟨rfl, rfl, rfl, rfl, rfl, rfl, rfl, rfl, rfl, rfl, rfl, rfl, rfl, rfl, rfl, rfl, rfl, rfl, trivial⟩ ?_
                refine QW.then_ ?_
                refine CW.region ?_
                refine RG.vl rfl rfl rfl (Ev.move rfl rfl) ?_
                refine RG.vl rfl rfl rfl (Ev.move rfl rfl) ?_
                refine RG.vl rfl rfl rfl (Ev.nilC rfl rfl) ?_
                refine RG.vl rfl rfl rfl (Ev.ldAt rfl rfl Try.underlying3 rfl (hgB.cells) (rfl)) ?_
                refine RG.vl rfl rfl rfl (Ev.move rfl rfl) ?_
                refine RG.vl rfl rfl rfl (Ev.negI rfl rfl (by omega)) ?_
                refine RG.vl rfl rfl rfl (Ev.move rfl rfl) ?_
                refine RG.vl rfl rfl rfl (Ev.move rfl rfl) ?_
                refine RG.vl rfl rfl rfl (Ev.min2 rfl rfl rfl rfl) ?_
                refine RG.vl rfl rfl rfl (Ev.max2 rfl rfl rfl rfl) ?_
                refine RG.vl rfl rfl rfl (Ev.addI rfl rfl rfl (by omega)) ?_
                refine RG.vl rfl rfl rfl (Ev.max2 rfl rfl rfl rfl) ?_
                refine RG.vl rfl rfl rfl (Ev.nilC rfl rfl) ?_
                refine RG.st (g := gB) (k := 0) rfl rfl rfl rfl rfl sz_3 rfl hgB rfl (fun ws122 hwws122 hbws122 => ?_)
                replace hgQ := Blk.far hgQ hwws122 (by omega)
                replace hxwl118 := Wr.below hxwl118 hwws122 hle94
                refine RG.done ?_
                refine QW.blockN ?_
                refine QW.then_ ?_
                refine CW.region ?_
                refine RG.vl rfl rfl rfl (Ev.addI rfl rfl rfl (by omega)) ?_
                refine RG.vl rfl rfl rfl (Ev.move rfl rfl) ?_
                refine RG.done ?_
                refine QW.sub (S' := [(2, _), (8, _), (9, _), (10, _), (16, _), (18, _), (21, _), (22, _), (23, _), (24, _), (145, _), (146, _), (147, _), (164, _), (165, _), (166, _)]) ⟨rfl, rfl, rfl, rfl, rfl, rfl, rfl, rfl, rfl, rfl, rfl, rfl, rfl, rfl, rfl, rfl, trivial⟩ ?_
                refine QW.round2 (0 + 1) (⟨max (cur.po + max (-marginOf s L) (min x.1 (marginOf s L))) 0, cur.up, cur.dn⟩) ⟨rfl, trivial⟩ ⟨rfl, rfl, rfl, rfl, rfl, rfl, rfl, rfl, rfl, rfl, rfl, rfl, rfl, rfl, rfl, trivial⟩ ⟨⟨by omega, fun h => absurd h (by decide), fun _ => hq1 (by decide), fun _ => hq2 (by decide), by show Shk _ b.po _; rw [show cur.po = b.po from hcv]; exact shk_step (by omega) (by omega) (by omega) (by omega), hs1, hs2, hbws122, hgQ⟩, hxwl118⟩ (by omega)
              · refine CW.skip ?_
                refine QW.blockN ?_
                refine QW.then_ ?_
                refine CW.region ?_
                refine RG.vl rfl rfl rfl (Ev.addI rfl rfl rfl (by omega)) ?_
                refine RG.vl rfl rfl rfl (Ev.move rfl rfl) ?_
                refine RG.done ?_
                refine QW.round2 (0 + 1) (cur) ⟨rfl, trivial⟩ ⟨rfl, rfl, rfl, rfl, rfl, rfl, rfl, rfl, rfl, rfl, rfl, rfl, rfl, rfl, rfl, trivial⟩ ⟨⟨by omega, fun h => absurd h (by omega), fun h => hq1 (by omega), fun h => hq2 (by omega), hs0, hs1, hs2, hgB, hgQ⟩, hxwl118⟩ (by omega)
            · refine CW.region ?_
              refine RG.vl rfl rfl rfl (Ev.move rfl rfl) ?_
              refine RG.vl rfl rfl rfl (Ev.idxN rfl rfl rfl Try.underlying36 sz_33 (by omega)) ?_
              refine RG.vl rfl rfl rfl (Ev.ldAt rfl rfl Try.underlying33 rfl (hgQ.cells) (rfl)) ?_
              have hcv : cur.up = b.up := hq1 (by decide)
              refine RG.vl rfl rfl rfl (Ev.assign rfl rfl) ?_
              refine RG.vl rfl rfl rfl (Ev.assign rfl rfl) ?_
              refine RG.done ?_
              refine QW.then_ ?_
              refine CW.seq ?_
              refine CW.region ?_
              refine RG.vl rfl rfl rfl (Ev.move rfl rfl) ?_
              refine RG.vl rfl rfl rfl (Ev.lenL rfl rfl rfl Try.underlying25 ((hn.ext hxwl118))) ?_
              refine RG.vl rfl rfl rfl (Ev.gtr rfl rfl rfl) ?_
              refine RG.done ?_
              refine QW.then_ ?_
              refine CW.condP rfl (fun hc123 => ?_) (fun hc123 => ?_)
              · refine CW.seq ?_
                obtain ⟨kk, hkk⟩ : ∃ kk : Nat, (3 * (i : Int) + ((1 : Nat) : Int)) % (ln.length : Int) = (kk : Int) := ⟨((3 * (i : Int) + ((1 : Nat) : Int)) % (ln.length : Int)).toNat, by have := Int.emod_nonneg (3 * (i : Int) + ((1 : Nat) : Int)) (show (ln.length : Int) ≠ 0 by omega); omega⟩
                have hkl := Int.emod_lt_of_pos (3 * (i : Int) + ((1 : Nat) : Int)) (show (0 : Int) < (ln.length : Int) by omega)
                obtain ⟨x, hx⟩ : ∃ x, ln[kk]? = some x := ⟨_, List.getElem?_eq_getElem (by omega)⟩
                obtain ⟨x1, x2⟩ := bounds_i8 x.2
                refine CW.region ?_
                refine RG.vl rfl rfl rfl (Ev.move rfl rfl) ?_
                refine RG.vl rfl rfl rfl (Ev.move rfl rfl) ?_
                refine RG.vl rfl rfl rfl (Ev.mulI rfl rfl rfl (by omega)) ?_
                refine RG.vl rfl rfl rfl (Ev.move rfl rfl) ?_
                refine RG.vl rfl rfl rfl (Ev.addI rfl rfl rfl (by omega)) ?_
                refine RG.vl rfl rfl rfl (Ev.move rfl rfl) ?_
                refine RG.vl rfl rfl rfl (Ev.lenL rfl rfl rfl Try.underlying25 ((hn.ext hxwl118))) ?_
                refine RG.vl rfl rfl rfl ((Ev.remI rfl rfl rfl (by omega)).conv (congrArg (Value.int .i64) hkk)) ?_
                refine RG.idxL rfl rfl rfl rfl rfl rfl Try.underlying25 sz_40 ((hn.ext hxwl118)) (hx) (fun p124 hp124b hp124 => ?_)
                refine RG.vl rfl rfl rfl (Ev.ld0 rfl rfl Try.underlying40 rfl (hp124) (rfl)) ?_
                refine RG.vl rfl rfl rfl (Ev.to64 rfl rfl Try.underlying40 Try.underlying3 (by omega)) ?_
                refine RG.vl rfl rfl rfl (Ev.assign rfl rfl) ?_
                refine RG.done ?_
                refine QW.sub (S' := [(2, _), (8, _), (9, _), (10, _), (16, _), (18, _), (21, _), (22, _), (23, _), (24, _), (26, _), (27, _), (145, _), (146, _), (147, _), (164, _), (165, _), (166, _)]) ⟨rfl, rfl, rfl, rfl, rfl, rfl, rfl, rfl, rfl, rfl, rfl, rfl, rfl, rfl, rfl, rfl, rfl, rfl, trivial⟩ ?_
                refine QW.then_ ?_
                refine CW.region ?_
                refine RG.vl rfl rfl rfl (Ev.move rfl rfl) ?_
                refine RG.vl rfl rfl rfl (Ev.move rfl rfl) ?_
                refine RG.vl rfl rfl rfl (Ev.nilC rfl rfl) ?_
                refine RG.vl rfl rfl rfl (Ev.ldAt rfl rfl Try.underlying3 rfl (hgB.cells) (rfl)) ?_
                refine RG.vl rfl rfl rfl (Ev.move rfl rfl) ?_
                refine RG.vl rfl rfl rfl (Ev.negI rfl rfl (by omega)) ?_
                refine RG.vl rfl rfl rfl (Ev.move rfl rfl) ?_
                refine RG.vl rfl rfl rfl (Ev.move rfl rfl) ?_
                refine RG.vl rfl rfl rfl (Ev.min2 rfl rfl rfl rfl) ?_
                refine RG.vl rfl rfl rfl (Ev.max2 rfl rfl rfl rfl) ?_
                refine RG.vl rfl rfl rfl (Ev.addI rfl rfl rfl (by omega)) ?_
                refine RG.vl rfl rfl rfl (Ev.max2 rfl rfl rfl rfl) ?_
                refine RG.vl rfl rfl rfl (Ev.nilC rfl rfl) ?_
                refine RG.st (g := gB) (k := 1) rfl rfl rfl rfl rfl sz_3 rfl hgB rfl (fun ws125 hwws125 hbws125 => ?_)
                replace hgQ := Blk.far hgQ hwws125 (by omega)
                replace hxwl118 := Wr.below hxwl118 hwws125 hle94
                refine RG.done ?_
                refine QW.blockN ?_
                refine QW.then_ ?_
                refine CW.region ?_
                refine RG.vl rfl rfl rfl (Ev.addI rfl rfl rfl (by omega)) ?_
                refine RG.vl rfl rfl rfl (Ev.move rfl rfl) ?_
                refine RG.done ?_
                refine QW.sub (S' := [(2, _), (8, _), (9, _), (10, _), (16, _), (18, _), (21, _), (22, _), (23, _), (24, _), (145, _), (146, _), (147, _), (164, _), (165, _), (166, _)]) ⟨rfl, rfl, rfl, rfl, rfl, rfl, rfl, rfl, rfl, rfl, rfl, rfl, rfl, rfl, rfl, rfl, trivial⟩ ?_
                refine QW.round2 (1 + 1) (⟨cur.po, max (cur.up + max (-marginOf s L) (min x.1 (marginOf s L))) 0, cur.dn⟩) ⟨rfl, trivial⟩ ⟨rfl, rfl, rfl, rfl, rfl, rfl, rfl, rfl, rfl, rfl, rfl, rfl, rfl, rfl, rfl, trivial⟩ ⟨⟨by omega, fun h => absurd h (by decide), fun h => absurd h (by decide), fun _ => hq2 (by decide), hs0, by show Shk _ b.up _; rw [show cur.up = b.up from hcv]; exact shk_step (by omega) (by omega) (by omega) (by omega), hs2, hbws125, hgQ⟩, hxwl118⟩ (by omega)
              · refine CW.skip ?_
                refine QW.blockN ?_
                refine QW.then_ ?_
                refine CW.region ?_
                refine RG.vl rfl rfl rfl (Ev.addI rfl rfl rfl (by omega)) ?_
                refine RG.vl rfl rfl rfl (Ev.move rfl rfl) ?_
                refine RG.done ?_
                refine QW.round2 (1 + 1) (cur) ⟨rfl, trivial⟩ ⟨rfl, rfl, rfl, rfl, rfl, rfl, rfl, rfl, rfl, rfl, rfl, rfl, rfl, rfl, rfl, trivial⟩ ⟨⟨by omega, fun h => absurd h (by omega), fun h => hq1 (by omega), fun h => hq2 (by omega), hs0, hs1, hs2, hgB, hgQ⟩, hxwl118⟩ (by omega)
            · refine CW.region ?_
              refine RG.vl rfl rfl rfl (Ev.move rfl rfl) ?_
              refine RG.vl rfl rfl rfl (Ev.idxN rfl rfl rfl Try.underlying36 sz_33 (by omega)) ?_
              refine RG.vl rfl rfl rfl (Ev.ldAt rfl rfl Try.underlying33 rfl (hgQ.cells) (rfl)) ?_
              have hcv : cur.dn = b.dn := hq2 (by decide)
              refine RG.vl rfl rfl rfl (Ev.assign rfl rfl) ?_
              refine RG.vl rfl rfl rfl (Ev.assign rfl rfl) ?_
              refine RG.done ?_
              refine QW.then_ ?_
              refine CW.seq ?_
              refine CW.region ?_
              refine RG.vl rfl rfl rfl (Ev.move rfl rfl) ?_
              refine RG.vl rfl rfl rfl (Ev.lenL rfl rfl rfl Try.underlying25 ((hn.ext hxwl118))) ?_
              refine RG.vl rfl rfl rfl (Ev.gtr rfl rfl rfl) ?_
              refine RG.done ?_
              refine QW.then_ ?_
              refine CW.condP rfl (fun hc126 => ?_) (fun hc126 => ?_)
              · refine CW.seq ?_
                obtain ⟨kk, hkk⟩ : ∃ kk : Nat, (3 * (i : Int) + ((2 : Nat) : Int)) % (ln.length : Int) = (kk : Int) := ⟨((3 * (i : Int) + ((2 : Nat) : Int)) % (ln.length : Int)).toNat, by have := Int.emod_nonneg (3 * (i : Int) + ((2 : Nat) : Int)) (show (ln.length : Int) ≠ 0 by omega); omega⟩
                have hkl := Int.emod_lt_of_pos (3 * (i : Int) + ((2 : Nat) : Int)) (show (0 : Int) < (ln.length : Int) by omega)
                obtain ⟨x, hx⟩ : ∃ x, ln[kk]? = some x := ⟨_, List.getElem?_eq_getElem (by omega)⟩
                obtain ⟨x1, x2⟩ := bounds_i8 x.2
                refine CW.region ?_
                refine RG.vl rfl rfl rfl (Ev.move rfl rfl) ?_
                refine RG.vl rfl rfl rfl (Ev.move rfl rfl) ?_
                refine RG.vl rfl rfl rfl (Ev.mulI rfl rfl rfl (by omega)) ?_
                refine RG.vl rfl rfl rfl (Ev.move rfl rfl) ?_
                refine RG.vl rfl rfl rfl (Ev.addI rfl rfl rfl (by omega)) ?_
                refine RG.vl rfl rfl rfl (Ev.move rfl rfl) ?_
                refine RG.vl rfl rfl rfl (Ev.lenL rfl rfl rfl Try.underlying25 ((hn.ext hxwl118))) ?_
                refine RG.vl rfl rfl rfl ((Ev.remI rfl rfl rfl (by omega)).conv (congrArg (Value.int .i64) hkk)) ?_
                refine RG.idxL rfl rfl rfl rfl rfl rfl Try.underlying25 sz_40 ((hn.ext hxwl118)) (hx) (fun p127 hp127b hp127 => ?_)
                refine RG.vl rfl rfl rfl (Ev.ld0 rfl rfl Try.underlying40 rfl (hp127) (rfl)) ?_
                refine RG.vl rfl rfl rfl (Ev.to64 rfl rfl Try.underlying40 Try.underlying3 (by omega)) ?_
                refine RG.vl rfl rfl rfl (Ev.assign rfl rfl) ?_
                refine RG.done ?_
                refine QW.sub (S' := [(2, _), (8, _), (9, _), (10, _), (16, _), (18, _), (21, _), (22, _), (23, _), (24, _), (26, _), (27, _), (145, _), (146, _), (147, _), (164, _), (165, _), (166, _)]) ⟨rfl, rfl, rfl, rfl, rfl, rfl, rfl, rfl, rfl, rfl, rfl, rfl, rfl, rfl, rfl, rfl, rfl, rfl, trivial⟩ ?_
                refine QW.then_ ?_
                refine CW.region ?_
                refine RG.vl rfl rfl rfl (Ev.move rfl rfl) ?_
                refine RG.vl rfl rfl rfl (Ev.move rfl rfl) ?_
                refine RG.vl rfl rfl rfl (Ev.nilC rfl rfl) ?_
                refine RG.vl rfl rfl rfl (Ev.ldAt rfl rfl Try.underlying3 rfl (hgB.cells) (rfl)) ?_
                refine RG.vl rfl rfl rfl (Ev.move rfl rfl) ?_
                refine RG.vl rfl rfl rfl (Ev.negI rfl rfl (by omega)) ?_
                refine RG.vl rfl rfl rfl (Ev.move rfl rfl) ?_
                refine RG.vl rfl rfl rfl (Ev.move rfl rfl) ?_
                refine RG.vl rfl rfl rfl (Ev.min2 rfl rfl rfl rfl) ?_
                refine RG.vl rfl rfl rfl (Ev.max2 rfl rfl rfl rfl) ?_
                refine RG.vl rfl rfl rfl (Ev.addI rfl rfl rfl (by omega)) ?_
                refine RG.vl rfl rfl rfl (Ev.max2 rfl rfl rfl rfl) ?_
                refine RG.vl rfl rfl rfl (Ev.nilC rfl rfl) ?_
                refine RG.st (g := gB) (k := 2) rfl rfl rfl rfl rfl sz_3 rfl hgB rfl (fun ws128 hwws128 hbws128 => ?_)
                replace hgQ := Blk.far hgQ hwws128 (by omega)
                replace hxwl118 := Wr.below hxwl118 hwws128 hle94
                refine RG.done ?_
                refine QW.blockN ?_
                refine QW.then_ ?_
                refine CW.region ?_
                refine RG.vl rfl rfl rfl (Ev.addI rfl rfl rfl (by omega)) ?_
                refine RG.vl rfl rfl rfl (Ev.move rfl rfl) ?_
                refine RG.done ?_
                refine QW.sub (S' := [(2, _), (8, _), (9, _), (10, _), (16, _), (18, _), (21, _), (22, _), (23, _), (24, _), (145, _), (146, _), (147, _), (164, _), (165, _), (166, _)]) ⟨rfl, rfl, rfl, rfl, rfl, rfl, rfl, rfl, rfl, rfl, rfl, rfl, rfl, rfl, rfl, rfl, trivial⟩ ?_
                refine QW.round2 (2 + 1) (⟨cur.po, cur.up, max (cur.dn + max (-marginOf s L) (min x.1 (marginOf s L))) 0⟩) ⟨rfl, trivial⟩ ⟨rfl, rfl, rfl, rfl, rfl, rfl, rfl, rfl, rfl, rfl, rfl, rfl, rfl, rfl, rfl, trivial⟩ ⟨⟨by omega, fun h => absurd h (by decide), fun h => absurd h (by decide), fun h => absurd h (by decide), hs0, hs1, by show Shk _ b.dn _; rw [show cur.dn = b.dn from hcv]; exact shk_step (by omega) (by omega) (by omega) (by omega), hbws128, hgQ⟩, hxwl118⟩ (by omega)
              · refine CW.skip ?_
                refine QW.blockN ?_
                refine QW.then_ ?_
                refine CW.region ?_
                refine RG.vl rfl rfl rfl (Ev.addI rfl rfl rfl (by omega)) ?_
                refine RG.vl rfl rfl rfl (Ev.move rfl rfl) ?_
                refine RG.done ?_
                refine QW.round2 (2 + 1) (cur) ⟨rfl, trivial⟩ ⟨rfl, rfl, rfl, rfl, rfl, rfl, rfl, rfl, rfl, rfl, rfl, rfl, rfl, rfl, rfl, trivial⟩ ⟨⟨by omega, fun h => absurd h (by omega), fun h => hq1 (by omega), fun h => hq2 (by omega), hs0, hs1, hs2, hgB, hgQ⟩, hxwl118⟩ (by omega)
          · refine CW.exit ?_
            refine QW.thenExit ?_
            refine QW.thenExit ?_
            refine QW.blockHit ?_
            refine QW.then_ ?_
            obtain rfl : k = 3 := by omega
            obtain ⟨hc1, hc2, hc3⟩ := shaken_at hok (by omega) (by omega) hb ⟨⟨bb1, bb2⟩, ⟨bb3, bb4⟩, bb5, bb6⟩ hx3 hx2 hLn ⟨hs0, hs1, hs2⟩
            refine CW.region ?_
            refine RG.vl rfl rfl rfl (Ev.move rfl rfl) ?_
            refine RG.vl rfl rfl rfl (Ev.ldAgg rfl rfl Try.underlying35 rfl sz_35 rfl (hgB.cells)) ?_
            refine RG.litO (os := [.tmp 200]) (enc := Br.c) ([cur]) rfl rfl rfl rfl rfl rfl rfl Try.underlying29 inf_35 rfl rfl rfl rfl rfl Br.c_len rfl rfl (fun v129 wk130 hxwk130 hown131 hnew132 => ?_)
            have hsep133 : Sep v129 _ := Sep.of_new (Own.ext hbs hxwl118) hnew132
            have hsep134 : Sep v129 _ := Sep.of_new (Own.ext hG hxwl118) hnew132
            have hsep135 : Sep v129 _ := Sep.of_new (Own.ext hM hxwl118) hnew132
            have hsep136 : Sep v129 _ := Sep.of_new (Own.ext hH hxwl118) hnew132
            replace hxwl118 := Ex.tr hxwl118 hxwk130
            have hE137 := hxwk130
            refine RG.appO rfl rfl rfl rfl rfl rfl rfl Try.underlying29 inf_35 rfl rfl Br.c_len (fun _ => rfl) (Own.ext hM hxwl118) ((hown131.rdl Br.c_len)) (by show _ + 1 ≤ maxLen; simp only [maxLen]; omega) (by show (_ + 1) * _ ≤ _; omega) ((Ex.tr hR88 hxwl118).size) (fun v138 wa139 hown140 hgr141 hat142 => ?_)
            have hsep144 := Sep.app hsp (Own.ext hH hxwl118) hat142
            have hown143 := Own.grown (Own.ext hH hxwl118) hgr141 (fun k a b => hsp k b a)
            have hb145 := Blk.grown (hgB.ext hE137) hgr141 (fun e => hsb92 e.symm)
            have hsb146 := sepb_app hsb92 (hgB.ext hE137) hat142
            have hb147 := Blk.grown (hgQ.ext hE137) hgr141 (fun e => hsb110 e.symm)
            have hsb148 := sepb_app hsb110 (hgQ.ext hE137) hat142
            have hsep150 := Sep.app (Sep.symm hsep135) hown131 hat142
            have hown149 := Own.grown hown131 hgr141 (fun k a b => (Sep.symm hsep135) k b a)
            have hE151 := own_block (Own.ext hM hxwl118) (Ex.tr hR88 hxwl118) hgr141 (Nat.le_refl _) (Ex.tr hR88 hxwl118).size
            refine RG.vl rfl rfl rfl (Ev.assign rfl rfl) ?_
            refine RG.done ?_
            refine QW.blockN ?_
            refine QW.then_ ?_
            refine CW.region ?_
            refine RG.vl rfl rfl rfl (Ev.addI rfl rfl rfl (by omega)) ?_
            refine RG.vl rfl rfl rfl (Ev.move rfl rfl) ?_
            refine RG.done ?_
            refine QW.round3 (i + 1) (M ++ [cur]) (v138) ⟨rfl, rfl, trivial⟩ ⟨rfl, rfl, rfl, rfl, rfl, rfl, rfl, rfl, rfl, trivial⟩ ⟨⟨by omega, kept_yes hK hg (by omega) hx1 hc1 hc2 hc3, hown140, by rw [hitsL_no hg]; exact hown143, hsep144⟩, hE151⟩ (by omega)
      · refine CW.exit ?_
        refine QW.thenExit ?_
        refine QW.thenExit ?_
        refine QW.blockHit ?_
        refine QW.then_ ?_
        refine CW.seq ?_
        obtain rfl : i = 64 := by omega
        have hKl := hK.len
        refine CW.region ?_
        refine RG.vl rfl rfl rfl (Ev.ldAgg rfl rfl Try.underlying27 rfl sz_27 rfl ((hbS0.ext hxwl79).cells)) ?_
        refine RG.vl rfl rfl rfl (Ev.move rfl rfl) ?_
        refine RG.call rfl rfl rfl rfl rfl rfl rfl en_11 (scan_ret s _ M _ ((hM.rdl Br.c_len)) (by omega)) ?_
        have hpre152 := (Ex.tr hR71 hxwl79)
        rintro _ w152 ⟨rx, rb, ry, rz, rs, re, rn, rfl, hoy, hoz, hsc, hx152⟩
        have hsep153 : Sep ry _ := Sep.of_new (Own.ext hbs hxwl79) (fun k h => Own.ge hoy h)
        have hsep154 : Sep ry _ := Sep.of_new (Own.ext hG hxwl79) (fun k h => Own.ge hoy h)
        have hsep155 : Sep ry _ := Sep.of_new hM (fun k h => Own.ge hoy h)
        have hsep156 : Sep ry _ := Sep.of_new hH (fun k h => Own.ge hoy h)
        have hsep157 : Sep rz _ := Sep.of_new (Own.ext hbs hxwl79) (fun k h => Own.ge hoz h)
        have hsep158 : Sep rz _ := Sep.of_new (Own.ext hG hxwl79) (fun k h => Own.ge hoz h)
        have hsep159 : Sep rz _ := Sep.of_new hM (fun k h => Own.ge hoz h)
        have hsep160 : Sep rz _ := Sep.of_new hH (fun k h => Own.ge hoz h)
        replace hxwl79 := Ex.tr hxwl79 hx152
        have hE161 := hx152
        obtain ⟨rfl, rfl, rfl, rfl, rfl⟩ := scan_shown hok s1 hie hdo (by omega) hK hsc
        obtain ⟨yA, yC, rfl⟩ := hoy.shape
        obtain ⟨zA, zC, rfl⟩ := hoz.shape
        refine RG.vl rfl rfl rfl (Ev.move rfl rfl) ?_
        refine RG.vl rfl rfl rfl (Ev.extract rfl rfl rfl) ?_
        refine RG.vl rfl rfl rfl (Ev.extract rfl rfl rfl) ?_
        refine RG.local_ rfl rfl rfl rfl (fun _ => rfl) rfl rfl (fun _ => rfl) inf_43 rfl rfl rfl (fun gX w162 egX hx162 hb162 => ?_)
        have hsb163 := fun e => sep_new (g := gX) (Own.ext hbs hxwl79) egX e
        have hsb164 := fun e => sep_new (g := gX) (Own.ext hG hxwl79) egX e
        have hsb165 := fun e => sep_new (g := gX) (Own.ext hM hE161) egX e
        have hsb166 := fun e => sep_new (g := gX) (Own.ext hH hE161) egX e
        have hsb167 := fun e => sep_new (g := gX) hoy egX e
        have hsb168 := fun e => sep_new (g := gX) hoz egX e
        have hle169 : wl61.heap.size ≤ gX := by have := hxwl79.size; omega
        have hle170 : wl79.heap.size ≤ gX := by have := hE161.size; omega
        have hle171 : w152.heap.size ≤ gX := by have := (Ex.rfl_ w152).size; omega
        have hlt172 : gF < gX := by have := Blk.lt (hb1.ext hxwl79); omega
        have hlt173 : gS < gX := by have := Blk.lt (hbS0.ext hxwl79); omega
        replace hxwl79 := Ex.tr hxwl79 hx162
        replace hE161 := Ex.tr hE161 hx162
        have hE174 := hx162
        refine RG.vl rfl rfl rfl (Ev.assign rfl rfl) ?_
        refine RG.done ?_
        refine QW.then_ ?_
        refine CW.seq ?_
        refine CW.seq ?_
        refine CW.region ?_
        refine RG.vl rfl rfl rfl (Ev.move rfl rfl) ?_
        refine RG.vl rfl rfl rfl (Ev.isF (Ev.neI rfl rfl rfl) (fun h => h rfl)) ?_
        refine RG.vl rfl rfl rfl (Ev.move rfl rfl) ?_
        refine RG.vl rfl rfl rfl (Ev.fld rfl rfl fld_43_0) ?_
        refine RG.vl rfl rfl rfl (Ev.ldAt rfl rfl Try.underlying9 rfl (hb162.cells) (rfl)) ?_
        refine RG.vl rfl rfl rfl (Ev.move rfl rfl) ?_
        refine RG.vl rfl rfl rfl (Ev.isF (Ev.neS rfl rfl rfl) (fun h => h rfl)) ?_
        refine RG.vl rfl rfl rfl (Ev.pickF rfl rfl rfl) ?_
        refine RG.vl rfl rfl rfl (Ev.move rfl rfl) ?_
        refine RG.vl rfl rfl rfl (Ev.fld rfl rfl fld_43_1) ?_
        refine RG.vl rfl rfl rfl (Ev.ldAt rfl rfl Try.underlying4 rfl (hb162.cells) (rfl)) ?_
        refine RG.vl rfl rfl rfl (Ev.pickF rfl rfl rfl) ?_
        refine RG.vl rfl rfl rfl (Ev.move rfl rfl) ?_
        refine RG.vl rfl rfl rfl (Ev.fld rfl rfl fld_43_2) ?_
        refine RG.vl rfl rfl rfl (Ev.ldAt rfl rfl Try.underlying41 rfl (hb162.cells) (rfl)) ?_
        refine RG.vl rfl rfl rfl (Ev.lenL rfl rfl rfl Try.underlying41 (((Own.ext hoy hE174).rdl encZ_len))) ?_
        refine RG.vl rfl rfl rfl (Ev.isF (Ev.neI rfl rfl rfl) (fun h => h rfl)) ?_
        refine RG.vl rfl rfl rfl (Ev.pickF rfl rfl rfl) ?_
        refine RG.done ?_
        refine QW.sub (S' := [(8, _), (22, _), (28, _), (227, _)]) ⟨rfl, rfl, rfl, rfl, trivial⟩ ?_
        refine QW.then_ ?_
        refine CW.condF rfl ?_
        refine CW.skip ?_
        refine QW.then_ ?_
        refine CW.seq ?_
        have hhl := hitsL_len ms 64
        refine CW.region ?_
        refine RG.vl rfl rfl rfl (Ev.assign rfl rfl) ?_
        refine RG.done ?_
        refine QW.then_ ?_
        refine CW.seq ?_
        refine CW.seq ?_
        refine CW.region ?_
        refine RG.vl rfl rfl rfl (Ev.move rfl rfl) ?_
        refine RG.vl rfl rfl rfl (Ev.lenL rfl rfl rfl Try.underlying39 (((Own.ext hH hE161).rdl encT_len))) ?_
        refine RG.vl rfl rfl rfl (Ev.move rfl rfl) ?_
        refine RG.done ?_
        refine QW.then_ ?_
        refine CW.block ?_
        replace hl := (hl.ext hxwl79)
        replace hn := (hn.ext hxwl79)
        replace hm := (hm.ext hxwl79)
        replace hb1 := (hb1.ext hxwl79)
        replace hbS0 := (hbS0.ext hxwl79)
        replace hbs := (Own.ext hbs hxwl79)
        replace hrv60 := (hrv60.ext hxwl79)
        replace hG := (Own.ext hG hxwl79)
        replace hM := (Own.ext hM hE161)
        replace hH := (Own.ext hH hE161)
        replace hoy := (Own.ext hoy hE174)
        replace hoz := (Own.ext hoz hE174)
        have hR175 := (Ex.tr hR71 hxwl79)
        have hR176 := (Ex.tr hR72 hxwl79)
        have hR177 := (Ex.tr hR73 hxwl79)
        have hR178 := (Ex.tr hR74 hxwl79)
        have hR179 := (Ex.tr hR75 hxwl79)
        have hR180 := hxwl79
        have hR181 := hE161
        refine CW.loop1 [(28, _), (228, _), (229, _)] ⟨rfl, rfl, rfl, trivial⟩ (fun (i : Nat) => [(230, .int .i64 i), (30, .int .i64 ((((List.range i).filter (hitA ms 64)).length : Nat) : Int))]) (fun i w' => (i ≤ 20) ∧ Ex w162 w') (fun i => 20 - i) (0) ⟨rfl, rfl, trivial⟩ ⟨Nat.zero_le _, (Ex.rfl_ _)⟩ ?_
        rintro i wl182 ⟨hi, hxwl182⟩
        refine CW.sub (S' := [(230, _), (30, _), (28, _), (228, _), (229, _)]) ⟨rfl, rfl, rfl, rfl, rfl, trivial⟩ ?_
        refine CW.seq ?_
        refine CW.region ?_
        refine RG.vl rfl rfl rfl (Ev.lss rfl rfl rfl) ?_
        refine RG.done ?_
        refine QW.then_ ?_
        refine CW.seq ?_
        refine CW.condP rfl (fun hc183 => ?_) (fun hc183 => ?_)
        · refine CW.skip ?_
          refine QW.then_ ?_
          refine CW.seq ?_
          refine CW.block ?_
          refine CW.seq ?_
          refine CW.region ?_
          refine RG.vl rfl rfl rfl (Ev.move rfl rfl) ?_
          refine RG.idxO rfl rfl rfl rfl rfl rfl Try.underlying39 sz_4 encT_len ((Own.ext hH hxwl182)) ((hitsL_at _ _ (by omega))) (fun g185 hg185 hBg185 hp184b hp184 => ?_)
          refine RG.vl rfl rfl rfl (Ev.ld0 rfl rfl Try.underlying4 rfl (hp184) (rfl)) ?_
          refine RG.vl rfl rfl rfl (Ev.assign rfl rfl) ?_
          refine RG.vl rfl rfl rfl (Ev.assign rfl rfl) ?_
          refine RG.done ?_
          refine QW.then_ ?_
          refine CW.seq ?_
          refine CW.seq ?_
          have hmr := filt_more (hitA ms 64) i
          have hcl := List.length_filter_le (hitA ms 64) (List.range i)
          rw [List.length_range] at hcl
          refine CW.region ?_
          refine RG.vl rfl rfl rfl (Ev.move rfl rfl) ?_
          refine RG.vl rfl rfl rfl (Ev.not rfl rfl) ?_
          refine RG.done ?_
          refine QW.then_ ?_
          refine CW.cond rfl (fun hc186 => ?_) (fun hc186 => ?_)
          · refine CW.exit ?_
            refine QW.thenExit ?_
            refine QW.blockHit ?_
            refine QW.then_ ?_
            have hh : hitA ms 64 i = false := by simpa using (by assumption : (!hitA ms 64 i) = true)
            rw [hh, if_neg (by decide)] at hmr
            refine CW.region ?_
            refine RG.vl rfl rfl rfl (Ev.addI rfl rfl rfl (by omega)) ?_
            refine RG.vl rfl rfl rfl (Ev.move rfl rfl) ?_
            refine RG.done ?_
            refine QW.round1 (i + 1) ⟨rfl, congrArg (fun x => some (Value.int .i64 x)) (by omega), trivial⟩ ⟨rfl, rfl, rfl, trivial⟩ ⟨by omega, hxwl182⟩ (by omega)
          · refine CW.skip ?_
            refine QW.then_ ?_
            refine CW.seq ?_
            refine CW.seq ?_
            have hh : hitA ms 64 i = true := by simpa using (by assumption : (!hitA ms 64 i) = false)
            have hxe := filt_at (n := 20) (by omega) hh
            have hlt := (List.getElem?_eq_some_iff.1 hxe).1
            rw [hh, if_pos rfl] at hmr
            refine CW.region ?_
            refine RG.vl rfl rfl rfl (Ev.move rfl rfl) ?_
            refine RG.vl rfl rfl rfl (Ev.fld rfl rfl fld_43_3) ?_
            refine RG.vl rfl rfl rfl (Ev.ldAt rfl rfl Try.underlying41 rfl ((hb162.ext hxwl182).cells) (rfl)) ?_
            refine RG.vl rfl rfl rfl (Ev.lenL rfl rfl rfl Try.underlying41 (((Own.ext hoz hxwl182).rdl encZ_len))) ?_
            refine RG.vl rfl rfl rfl (Ev.isF (Ev.geq rfl rfl rfl) (by omega)) ?_
            refine RG.vl rfl rfl rfl (Ev.move rfl rfl) ?_
            refine RG.vl rfl rfl rfl (Ev.fld rfl rfl fld_43_3) ?_
            refine RG.vl rfl rfl rfl (Ev.ldAt rfl rfl Try.underlying41 rfl ((hb162.ext hxwl182).cells) (rfl)) ?_
            refine RG.vl rfl rfl rfl (Ev.move rfl rfl) ?_
            refine RG.idxO rfl rfl rfl rfl rfl rfl Try.underlying41 sz_3 encZ_len ((Own.ext hoz hxwl182)) (hxe) (fun g188 hg188 hBg188 hp187b hp187 => ?_)
            refine RG.vl rfl rfl rfl (Ev.ld0 rfl rfl Try.underlying3 rfl (hp187) (rfl)) ?_
            refine RG.vl rfl rfl rfl (Ev.move rfl rfl) ?_
            refine RG.vl rfl rfl rfl (Ev.isF (Ev.neI rfl rfl rfl) (fun h => h rfl)) ?_
            refine RG.vl rfl rfl rfl (Ev.pickF rfl rfl rfl) ?_
            refine RG.done ?_
            refine QW.sub (S' := [(28, _), (30, _), (228, _), (229, _), (230, _), (250, _)]) ⟨rfl, rfl, rfl, rfl, rfl, rfl, trivial⟩ ?_
            refine QW.then_ ?_
            refine CW.condF rfl ?_
            refine CW.skip ?_
            refine QW.then_ ?_
            refine CW.region ?_
            refine RG.vl rfl rfl rfl (Ev.move rfl rfl) ?_
            refine RG.vl rfl rfl rfl (Ev.addI rfl rfl rfl (by omega)) ?_
            refine RG.vl rfl rfl rfl (Ev.assign rfl rfl) ?_
            refine RG.done ?_
            refine QW.blockN ?_
            refine QW.then_ ?_
            refine CW.region ?_
            refine RG.vl rfl rfl rfl (Ev.addI rfl rfl rfl (by omega)) ?_
            refine RG.vl rfl rfl rfl (Ev.move rfl rfl) ?_
            refine RG.done ?_
            refine QW.round1 (i + 1) ⟨rfl, congrArg (fun x => some (Value.int .i64 x)) (by omega), trivial⟩ ⟨rfl, rfl, rfl, trivial⟩ ⟨by omega, hxwl182⟩ (by omega)
        · refine CW.exit ?_
          refine QW.thenExit ?_
          refine QW.thenExit ?_
          refine QW.blockHit ?_
          refine QW.then_ ?_
          refine CW.seq ?_
          obtain rfl : i = 20 := by omega
          refine CW.region ?_
          refine RG.vl rfl rfl rfl (Ev.move rfl rfl) ?_
          refine RG.vl rfl rfl rfl (Ev.fld rfl rfl fld_43_3) ?_
          refine RG.vl rfl rfl rfl (Ev.ldAt rfl rfl Try.underlying41 rfl ((hb162.ext hxwl182).cells) (rfl)) ?_
          refine RG.vl rfl rfl rfl (Ev.lenL rfl rfl rfl Try.underlying41 (((Own.ext hoz hxwl182).rdl encZ_len))) ?_
          refine RG.vl rfl rfl rfl (Ev.isT (Ev.eqI rfl rfl rfl) (rfl)) ?_
          refine RG.vl rfl rfl rfl (Ev.move rfl rfl) ?_
          refine RG.call rfl rfl rfl rfl rfl rfl rfl en_12 (awake_ret _) ?_
          rintro _ w189 ⟨rfl, hx189⟩
          replace hxwl182 := Ex.tr hxwl182 hx189
          have hE190 := hx189
          refine RG.vl rfl rfl rfl (Ev.pickT rfl rfl rfl) ?_
          refine RG.vl rfl rfl rfl (Ev.assign rfl rfl) ?_
          refine RG.done ?_
          refine QW.then_ ?_
          refine CW.ret ?_
          refine QW.ret1 rfl rfl ?_
          have hB := (Ex.tr hR175 hxwl182)
          exact ⟨rfl, hB⟩

end Go.Proofs.Ytgjnchjkjdnidaa

