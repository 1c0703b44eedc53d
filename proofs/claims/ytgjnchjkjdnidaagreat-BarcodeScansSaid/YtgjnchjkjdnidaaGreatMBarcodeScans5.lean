/- Texts put together by program: HA, HQ, HE, HF, HG, HU, HV, US, VQ, HC, HD, VA, BL, BO. -/
import Derived.Test.YtgjnchjkjdnidaaGreatMBarcodeScans4
/- Chapter 21: walks (HA). Written by program. -/
namespace Go.Proofs.YtgjnchjkjdnidaaGreat
open Go.RowKit
set_option maxRecDepth 100000 in
set_option maxHeartbeats 1000000 in
theorem right_ret (s : Su) (w : World)  :
  Ret Tryz.prog 45 [s.v] w (fun v w' => v = .bool (decide (Okay s)) ∧ Ex w w') := by
 have hB0 : Ex w w := Ex.rfl_ _
 refine Ret.of Tryz.func45 rfl Tryz.ntmps45 rfl ?_
 refine CW.seq (CW.region ?_)
 refine RG.box rfl rfl rfl rfl rfl (fun g1 w1 eg1 hx1 hb1 => ?_)
 have hE2 := hx1
 refine RG.vl rfl rfl rfl (Ev.assign rfl rfl) ?_
 refine RG.done (QW.then_ (CW.seq (CW.region ?_)))
 refine RG.vl rfl rfl rfl (Ev.fld rfl rfl fld_23_0) ?_
 refine RG.vl rfl rfl rfl (Ev.ldAt rfl rfl Tryz.underlying3 rfl (hb1.cells) (rfl)) ?_
 refine RG.vl rfl rfl rfl (Ev.geq rfl rfl rfl) ?_
 refine RG.vl rfl rfl rfl (Ev.move rfl rfl) ?_
 refine RG.split (d := 6) rfl (fun hg3 => ?_) (fun hg3 => ?_)
 ·refine RG.vl rfl rfl rfl (Ev.fld rfl rfl fld_23_0) ?_
  refine RG.vl rfl rfl rfl (Ev.ldAt rfl rfl Tryz.underlying3 rfl (hb1.cells) (rfl)) ?_
  refine RG.vl rfl rfl rfl (Ev.leq rfl rfl rfl) ?_
  refine RG.vl rfl rfl rfl (Ev.pickT rfl rfl rfl) ?_
  refine RG.vl rfl rfl rfl (Ev.move rfl rfl) ?_
  refine RG.split (d := 11) rfl (fun hg4 => ?_) (fun hg4 => ?_)
  ·refine RG.vl rfl rfl rfl (Ev.fld rfl rfl fld_23_2) ?_
   refine RG.vl rfl rfl rfl (Ev.ldAt rfl rfl Tryz.underlying3 rfl (hb1.cells) (rfl)) ?_
   refine RG.vl rfl rfl rfl (Ev.geq rfl rfl rfl) ?_
   refine RG.vl rfl rfl rfl (Ev.pickT rfl rfl rfl) ?_
   refine RG.vl rfl rfl rfl (Ev.move rfl rfl) ?_
   refine RG.split (d := 16) rfl (fun hg5 => ?_) (fun hg5 => ?_)
   ·refine RG.vl rfl rfl rfl (Ev.fld rfl rfl fld_23_2) ?_
    refine RG.vl rfl rfl rfl (Ev.ldAt rfl rfl Tryz.underlying3 rfl (hb1.cells) (rfl)) ?_
    refine RG.vl rfl rfl rfl (Ev.leq rfl rfl rfl) ?_
    refine RG.vl rfl rfl rfl (Ev.pickT rfl rfl rfl) ?_
    refine RG.vl rfl rfl rfl (Ev.move rfl rfl) ?_
    refine RG.split (d := 21) rfl (fun hg6 => ?_) (fun hg6 => ?_)
    ·refine RG.vl rfl rfl rfl (Ev.fld rfl rfl fld_23_1) ?_
     refine RG.vl rfl rfl rfl (Ev.ldAt rfl rfl Tryz.underlying3 rfl (hb1.cells) (rfl)) ?_
     refine RG.vl rfl rfl rfl (Ev.geq rfl rfl rfl) ?_
     refine RG.vl rfl rfl rfl (Ev.pickT rfl rfl rfl) ?_
     refine RG.vl rfl rfl rfl (Ev.move rfl rfl) ?_
     refine RG.split (d := 26) rfl (fun hg7 => ?_) (fun hg7 => ?_)
     ·refine RG.vl rfl rfl rfl (Ev.fld rfl rfl fld_23_1) ?_
      refine RG.vl rfl rfl rfl (Ev.ldAt rfl rfl Tryz.underlying3 rfl (hb1.cells) (rfl)) ?_
      refine RG.vl rfl rfl rfl (Ev.leq rfl rfl rfl) ?_
      refine RG.vl rfl rfl rfl (Ev.pickT rfl rfl rfl) ?_
      refine RG.vl rfl rfl rfl (Ev.move rfl rfl) ?_
      refine RG.split (d := 31) rfl (fun hg8 => ?_) (fun hg8 => ?_)
      ·refine RG.vl rfl rfl rfl (Ev.fld rfl rfl fld_23_3) ?_
       refine RG.vl rfl rfl rfl (Ev.ldAt rfl rfl Tryz.underlying3 rfl (hb1.cells) (rfl)) ?_
       refine RG.vl rfl rfl rfl (Ev.geq rfl rfl rfl) ?_
       refine RG.vl rfl rfl rfl (Ev.pickT rfl rfl rfl) ?_
       refine RG.vl rfl rfl rfl (Ev.move rfl rfl) ?_
       refine RG.split (d := 36) rfl (fun hg9 => ?_) (fun hg9 => ?_)
       ·refine RG.vl rfl rfl rfl (Ev.fld rfl rfl fld_23_3) ?_
        refine RG.vl rfl rfl rfl (Ev.ldAt rfl rfl Tryz.underlying3 rfl (hb1.cells) (rfl)) ?_
        refine RG.vl rfl rfl rfl (Ev.fld rfl rfl fld_23_2) ?_
        refine RG.vl rfl rfl rfl (Ev.ldAt rfl rfl Tryz.underlying3 rfl (hb1.cells) (rfl)) ?_
        refine RG.vl rfl rfl rfl (Ev.subI rfl rfl rfl (by omega)) ?_
        refine RG.vl rfl rfl rfl (Ev.quoI rfl rfl rfl (by omega)) ?_
        refine RG.vl rfl rfl rfl (Ev.leq rfl rfl rfl) ?_
        refine RG.vl rfl rfl rfl (Ev.pickT rfl rfl rfl) ?_
        refine RG.vl rfl rfl rfl (Ev.move rfl rfl) ?_
        refine RG.split (d := 45) rfl (fun hg10 => ?_) (fun hg10 => ?_)
        ·refine RG.vl rfl rfl rfl (Ev.fld rfl rfl fld_23_4) ?_
         refine RG.vl rfl rfl rfl (Ev.ldAt rfl rfl Tryz.underlying3 rfl (hb1.cells) (rfl)) ?_
         refine RG.vl rfl rfl rfl (Ev.geq rfl rfl rfl) ?_
         refine RG.vl rfl rfl rfl (Ev.pickT rfl rfl rfl) ?_
         refine RG.vl rfl rfl rfl (Ev.move rfl rfl) ?_
         refine RG.split (d := 50) rfl (fun hg11 => ?_) (fun hg11 => ?_)
         ·refine RG.vl rfl rfl rfl (Ev.fld rfl rfl fld_23_4) ?_
          refine RG.vl rfl rfl rfl (Ev.ldAt rfl rfl Tryz.underlying3 rfl (hb1.cells) (rfl)) ?_
          refine RG.vl rfl rfl rfl (Ev.fld rfl rfl fld_23_5) ?_
          refine RG.vl rfl rfl rfl (Ev.ldAt rfl rfl Tryz.underlying3 rfl (hb1.cells) (rfl)) ?_
          refine RG.vl rfl rfl rfl (Ev.lss rfl rfl rfl) ?_
          refine RG.vl rfl rfl rfl (Ev.pickT rfl rfl rfl) ?_
          refine RG.vl rfl rfl rfl (Ev.move rfl rfl) ?_
          refine RG.split (d := 57) rfl (fun hg12 => ?_) (fun hg12 => ?_)
          ·refine RG.vl rfl rfl rfl (Ev.fld rfl rfl fld_23_5) ?_
           refine RG.vl rfl rfl rfl (Ev.ldAt rfl rfl Tryz.underlying3 rfl (hb1.cells) (rfl)) ?_
           refine RG.vl rfl rfl rfl (Ev.leq rfl rfl rfl) ?_
           refine RG.vl rfl rfl rfl (Ev.pickT rfl rfl rfl) ?_
           refine RG.vl rfl rfl rfl (Ev.assign rfl rfl) ?_
           refine RG.done ?_
           refine QW.sub (S' := [(2, _)]) ⟨rfl, trivial⟩ ?_
           refine QW.then_ (CW.ret ?_)
           refine QW.ret1 rfl rfl ?_
           have hB := (Ex.tr hB0 hE2)
           refine ⟨congrArg Value.bool ?_, hB⟩; rw [eq_comm]; first | (rw [decide_eq_decide]; unfold Okay; omega) | (rw [decide_eq_false_iff_not]; unfold Okay; omega)
          ·refine RG.pass rfl rfl rfl ?_
           refine RG.pass rfl rfl rfl ?_
           refine RG.pass rfl rfl rfl ?_
           refine RG.vl rfl rfl rfl (Ev.pickF rfl rfl rfl) ?_
           refine RG.vl rfl rfl rfl (Ev.assign rfl rfl) ?_
           refine RG.done ?_
           refine QW.sub (S' := [(2, _)]) ⟨rfl, trivial⟩ ?_
           refine QW.then_ (CW.ret ?_)
           refine QW.ret1 rfl rfl ?_
           have hB := (Ex.tr hB0 hE2)
           refine ⟨congrArg Value.bool ?_, hB⟩; rw [eq_comm]; first | (rw [decide_eq_decide]; unfold Okay; omega) | (rw [decide_eq_false_iff_not]; unfold Okay; omega)
         ·refine RG.pass rfl rfl rfl ?_
          refine RG.pass rfl rfl rfl ?_
          refine RG.pass rfl rfl rfl ?_
          refine RG.pass rfl rfl rfl ?_
          refine RG.pass rfl rfl rfl ?_
          refine RG.vl rfl rfl rfl (Ev.pickF rfl rfl rfl) ?_
          refine RG.vl rfl rfl rfl (Ev.move rfl rfl) ?_
          refine RG.pass rfl rfl rfl ?_
          refine RG.pass rfl rfl rfl ?_
          refine RG.pass rfl rfl rfl ?_
          refine RG.vl rfl rfl rfl (Ev.pickF rfl rfl rfl) ?_
          refine RG.vl rfl rfl rfl (Ev.assign rfl rfl) ?_
          refine RG.done ?_
          refine QW.sub (S' := [(2, _)]) ⟨rfl, trivial⟩ ?_
          refine QW.then_ (CW.ret ?_)
          refine QW.ret1 rfl rfl ?_
          have hB := (Ex.tr hB0 hE2)
          refine ⟨congrArg Value.bool ?_, hB⟩; rw [eq_comm]; first | (rw [decide_eq_decide]; unfold Okay; omega) | (rw [decide_eq_false_iff_not]; unfold Okay; omega)
        ·refine RG.pass rfl rfl rfl ?_
         refine RG.pass rfl rfl rfl ?_
         refine RG.pass rfl rfl rfl ?_
         refine RG.vl rfl rfl rfl (Ev.pickF rfl rfl rfl) ?_
         refine RG.vl rfl rfl rfl (Ev.move rfl rfl) ?_
         refine RG.pass rfl rfl rfl ?_
         refine RG.pass rfl rfl rfl ?_
         refine RG.pass rfl rfl rfl ?_
         refine RG.pass rfl rfl rfl ?_
         refine RG.pass rfl rfl rfl ?_
         refine RG.vl rfl rfl rfl (Ev.pickF rfl rfl rfl) ?_
         refine RG.vl rfl rfl rfl (Ev.move rfl rfl) ?_
         refine RG.pass rfl rfl rfl ?_
         refine RG.pass rfl rfl rfl ?_
         refine RG.pass rfl rfl rfl ?_
         refine RG.vl rfl rfl rfl (Ev.pickF rfl rfl rfl) ?_
         refine RG.vl rfl rfl rfl (Ev.assign rfl rfl) ?_
         refine RG.done ?_
         refine QW.sub (S' := [(2, _)]) ⟨rfl, trivial⟩ ?_
         refine QW.then_ (CW.ret ?_)
         refine QW.ret1 rfl rfl ?_
         have hB := (Ex.tr hB0 hE2)
         refine ⟨congrArg Value.bool ?_, hB⟩; rw [eq_comm]; first | (rw [decide_eq_decide]; unfold Okay; omega) | (rw [decide_eq_false_iff_not]; unfold Okay; omega)
       ·refine RG.pass rfl rfl rfl ?_
        refine RG.pass rfl rfl rfl ?_
        refine RG.pass rfl rfl rfl ?_
        refine RG.pass rfl rfl rfl ?_
        refine RG.pass rfl rfl rfl ?_
        refine RG.pass rfl rfl rfl ?_
        refine RG.pass rfl rfl rfl ?_
        refine RG.vl rfl rfl rfl (Ev.pickF rfl rfl rfl) ?_
        refine RG.vl rfl rfl rfl (Ev.move rfl rfl) ?_
        refine RG.pass rfl rfl rfl ?_
        refine RG.pass rfl rfl rfl ?_
        refine RG.pass rfl rfl rfl ?_
        refine RG.vl rfl rfl rfl (Ev.pickF rfl rfl rfl) ?_
        refine RG.vl rfl rfl rfl (Ev.move rfl rfl) ?_
        refine RG.pass rfl rfl rfl ?_
        refine RG.pass rfl rfl rfl ?_
        refine RG.pass rfl rfl rfl ?_
        refine RG.pass rfl rfl rfl ?_
        refine RG.pass rfl rfl rfl ?_
        refine RG.vl rfl rfl rfl (Ev.pickF rfl rfl rfl) ?_
        refine RG.vl rfl rfl rfl (Ev.move rfl rfl) ?_
        refine RG.pass rfl rfl rfl ?_
        refine RG.pass rfl rfl rfl ?_
        refine RG.pass rfl rfl rfl ?_
        refine RG.vl rfl rfl rfl (Ev.pickF rfl rfl rfl) ?_
        refine RG.vl rfl rfl rfl (Ev.assign rfl rfl) ?_
        refine RG.done ?_
        refine QW.sub (S' := [(2, _)]) ⟨rfl, trivial⟩ ?_
        refine QW.then_ (CW.ret ?_)
        refine QW.ret1 rfl rfl ?_
        have hB := (Ex.tr hB0 hE2)
        refine ⟨congrArg Value.bool ?_, hB⟩; rw [eq_comm]; first | (rw [decide_eq_decide]; unfold Okay; omega) | (rw [decide_eq_false_iff_not]; unfold Okay; omega)
      ·refine RG.pass rfl rfl rfl ?_
       refine RG.pass rfl rfl rfl ?_
       refine RG.pass rfl rfl rfl ?_
       refine RG.vl rfl rfl rfl (Ev.pickF rfl rfl rfl) ?_
       refine RG.vl rfl rfl rfl (Ev.move rfl rfl) ?_
       refine RG.pass rfl rfl rfl ?_
       refine RG.pass rfl rfl rfl ?_
       refine RG.pass rfl rfl rfl ?_
       refine RG.pass rfl rfl rfl ?_
       refine RG.pass rfl rfl rfl ?_
       refine RG.pass rfl rfl rfl ?_
       refine RG.pass rfl rfl rfl ?_
       refine RG.vl rfl rfl rfl (Ev.pickF rfl rfl rfl) ?_
       refine RG.vl rfl rfl rfl (Ev.move rfl rfl) ?_
       refine RG.pass rfl rfl rfl ?_
       refine RG.pass rfl rfl rfl ?_
       refine RG.pass rfl rfl rfl ?_
       refine RG.vl rfl rfl rfl (Ev.pickF rfl rfl rfl) ?_
       refine RG.vl rfl rfl rfl (Ev.move rfl rfl) ?_
       refine RG.pass rfl rfl rfl ?_
       refine RG.pass rfl rfl rfl ?_
       refine RG.pass rfl rfl rfl ?_
       refine RG.pass rfl rfl rfl ?_
       refine RG.pass rfl rfl rfl ?_
       refine RG.vl rfl rfl rfl (Ev.pickF rfl rfl rfl) ?_
       refine RG.vl rfl rfl rfl (Ev.move rfl rfl) ?_
       refine RG.pass rfl rfl rfl ?_
       refine RG.pass rfl rfl rfl ?_
       refine RG.pass rfl rfl rfl ?_
       refine RG.vl rfl rfl rfl (Ev.pickF rfl rfl rfl) ?_
       refine RG.vl rfl rfl rfl (Ev.assign rfl rfl) ?_
       refine RG.done ?_
       refine QW.sub (S' := [(2, _)]) ⟨rfl, trivial⟩ ?_
       refine QW.then_ (CW.ret ?_)
       refine QW.ret1 rfl rfl ?_
       have hB := (Ex.tr hB0 hE2)
       refine ⟨congrArg Value.bool ?_, hB⟩; rw [eq_comm]; first | (rw [decide_eq_decide]; unfold Okay; omega) | (rw [decide_eq_false_iff_not]; unfold Okay; omega)
     ·refine RG.pass rfl rfl rfl ?_
      refine RG.pass rfl rfl rfl ?_
      refine RG.pass rfl rfl rfl ?_
      refine RG.vl rfl rfl rfl (Ev.pickF rfl rfl rfl) ?_
      refine RG.vl rfl rfl rfl (Ev.move rfl rfl) ?_
      refine RG.pass rfl rfl rfl ?_
      refine RG.pass rfl rfl rfl ?_
      refine RG.pass rfl rfl rfl ?_
      refine RG.vl rfl rfl rfl (Ev.pickF rfl rfl rfl) ?_
      refine RG.vl rfl rfl rfl (Ev.move rfl rfl) ?_
      refine RG.pass rfl rfl rfl ?_
      refine RG.pass rfl rfl rfl ?_
      refine RG.pass rfl rfl rfl ?_
      refine RG.pass rfl rfl rfl ?_
      refine RG.pass rfl rfl rfl ?_
      refine RG.pass rfl rfl rfl ?_
      refine RG.pass rfl rfl rfl ?_
      refine RG.vl rfl rfl rfl (Ev.pickF rfl rfl rfl) ?_
      refine RG.vl rfl rfl rfl (Ev.move rfl rfl) ?_
      refine RG.pass rfl rfl rfl ?_
      refine RG.pass rfl rfl rfl ?_
      refine RG.pass rfl rfl rfl ?_
      refine RG.vl rfl rfl rfl (Ev.pickF rfl rfl rfl) ?_
      refine RG.vl rfl rfl rfl (Ev.move rfl rfl) ?_
      refine RG.pass rfl rfl rfl ?_
      refine RG.pass rfl rfl rfl ?_
      refine RG.pass rfl rfl rfl ?_
      refine RG.pass rfl rfl rfl ?_
      refine RG.pass rfl rfl rfl ?_
      refine RG.vl rfl rfl rfl (Ev.pickF rfl rfl rfl) ?_
      refine RG.vl rfl rfl rfl (Ev.move rfl rfl) ?_
      refine RG.pass rfl rfl rfl ?_
      refine RG.pass rfl rfl rfl ?_
      refine RG.pass rfl rfl rfl ?_
      refine RG.vl rfl rfl rfl (Ev.pickF rfl rfl rfl) ?_
      refine RG.vl rfl rfl rfl (Ev.assign rfl rfl) ?_
      refine RG.done ?_
      refine QW.sub (S' := [(2, _)]) ⟨rfl, trivial⟩ ?_
      refine QW.then_ (CW.ret ?_)
      refine QW.ret1 rfl rfl ?_
      have hB := (Ex.tr hB0 hE2)
      refine ⟨congrArg Value.bool ?_, hB⟩; rw [eq_comm]; first | (rw [decide_eq_decide]; unfold Okay; omega) | (rw [decide_eq_false_iff_not]; unfold Okay; omega)
    ·refine RG.pass rfl rfl rfl ?_
     refine RG.pass rfl rfl rfl ?_
     refine RG.pass rfl rfl rfl ?_
     refine RG.vl rfl rfl rfl (Ev.pickF rfl rfl rfl) ?_
     refine RG.vl rfl rfl rfl (Ev.move rfl rfl) ?_
     refine RG.pass rfl rfl rfl ?_
     refine RG.pass rfl rfl rfl ?_
     refine RG.pass rfl rfl rfl ?_
     refine RG.vl rfl rfl rfl (Ev.pickF rfl rfl rfl) ?_
     refine RG.vl rfl rfl rfl (Ev.move rfl rfl) ?_
     refine RG.pass rfl rfl rfl ?_
     refine RG.pass rfl rfl rfl ?_
     refine RG.pass rfl rfl rfl ?_
     refine RG.vl rfl rfl rfl (Ev.pickF rfl rfl rfl) ?_
     refine RG.vl rfl rfl rfl (Ev.move rfl rfl) ?_
     refine RG.pass rfl rfl rfl ?_
     refine RG.pass rfl rfl rfl ?_
     refine RG.pass rfl rfl rfl ?_
     refine RG.pass rfl rfl rfl ?_
     refine RG.pass rfl rfl rfl ?_
     refine RG.pass rfl rfl rfl ?_
     refine RG.pass rfl rfl rfl ?_
     refine RG.vl rfl rfl rfl (Ev.pickF rfl rfl rfl) ?_
     refine RG.vl rfl rfl rfl (Ev.move rfl rfl) ?_
     refine RG.pass rfl rfl rfl ?_
     refine RG.pass rfl rfl rfl ?_
     refine RG.pass rfl rfl rfl ?_
     refine RG.vl rfl rfl rfl (Ev.pickF rfl rfl rfl) ?_
     refine RG.vl rfl rfl rfl (Ev.move rfl rfl) ?_
     refine RG.pass rfl rfl rfl ?_
     refine RG.pass rfl rfl rfl ?_
     refine RG.pass rfl rfl rfl ?_
     refine RG.pass rfl rfl rfl ?_
     refine RG.pass rfl rfl rfl ?_
     refine RG.vl rfl rfl rfl (Ev.pickF rfl rfl rfl) ?_
     refine RG.vl rfl rfl rfl (Ev.move rfl rfl) ?_
     refine RG.pass rfl rfl rfl ?_
     refine RG.pass rfl rfl rfl ?_
     refine RG.pass rfl rfl rfl ?_
     refine RG.vl rfl rfl rfl (Ev.pickF rfl rfl rfl) ?_
     refine RG.vl rfl rfl rfl (Ev.assign rfl rfl) ?_
     refine RG.done ?_
     refine QW.sub (S' := [(2, _)]) ⟨rfl, trivial⟩ ?_
     refine QW.then_ (CW.ret ?_)
     refine QW.ret1 rfl rfl ?_
     have hB := (Ex.tr hB0 hE2)
     refine ⟨congrArg Value.bool ?_, hB⟩; rw [eq_comm]; first | (rw [decide_eq_decide]; unfold Okay; omega) | (rw [decide_eq_false_iff_not]; unfold Okay; omega)
   ·refine RG.pass rfl rfl rfl ?_
    refine RG.pass rfl rfl rfl ?_
    refine RG.pass rfl rfl rfl ?_
    refine RG.vl rfl rfl rfl (Ev.pickF rfl rfl rfl) ?_
    refine RG.vl rfl rfl rfl (Ev.move rfl rfl) ?_
    refine RG.pass rfl rfl rfl ?_
    refine RG.pass rfl rfl rfl ?_
    refine RG.pass rfl rfl rfl ?_
    refine RG.vl rfl rfl rfl (Ev.pickF rfl rfl rfl) ?_
    refine RG.vl rfl rfl rfl (Ev.move rfl rfl) ?_
    refine RG.pass rfl rfl rfl ?_
    refine RG.pass rfl rfl rfl ?_
    refine RG.pass rfl rfl rfl ?_
    refine RG.vl rfl rfl rfl (Ev.pickF rfl rfl rfl) ?_
    refine RG.vl rfl rfl rfl (Ev.move rfl rfl) ?_
    refine RG.pass rfl rfl rfl ?_
    refine RG.pass rfl rfl rfl ?_
    refine RG.pass rfl rfl rfl ?_
    refine RG.vl rfl rfl rfl (Ev.pickF rfl rfl rfl) ?_
    refine RG.vl rfl rfl rfl (Ev.move rfl rfl) ?_
    refine RG.pass rfl rfl rfl ?_
    refine RG.pass rfl rfl rfl ?_
    refine RG.pass rfl rfl rfl ?_
    refine RG.pass rfl rfl rfl ?_
    refine RG.pass rfl rfl rfl ?_
    refine RG.pass rfl rfl rfl ?_
    refine RG.pass rfl rfl rfl ?_
    refine RG.vl rfl rfl rfl (Ev.pickF rfl rfl rfl) ?_
    refine RG.vl rfl rfl rfl (Ev.move rfl rfl) ?_
    refine RG.pass rfl rfl rfl ?_
    refine RG.pass rfl rfl rfl ?_
    refine RG.pass rfl rfl rfl ?_
    refine RG.vl rfl rfl rfl (Ev.pickF rfl rfl rfl) ?_
    refine RG.vl rfl rfl rfl (Ev.move rfl rfl) ?_
    refine RG.pass rfl rfl rfl ?_
    refine RG.pass rfl rfl rfl ?_
    refine RG.pass rfl rfl rfl ?_
    refine RG.pass rfl rfl rfl ?_
    refine RG.pass rfl rfl rfl ?_
    refine RG.vl rfl rfl rfl (Ev.pickF rfl rfl rfl) ?_
    refine RG.vl rfl rfl rfl (Ev.move rfl rfl) ?_
    refine RG.pass rfl rfl rfl ?_
    refine RG.pass rfl rfl rfl ?_
    refine RG.pass rfl rfl rfl ?_
    refine RG.vl rfl rfl rfl (Ev.pickF rfl rfl rfl) ?_
    refine RG.vl rfl rfl rfl (Ev.assign rfl rfl) ?_
    refine RG.done ?_
    refine QW.sub (S' := [(2, _)]) ⟨rfl, trivial⟩ ?_
    refine QW.then_ (CW.ret ?_)
    refine QW.ret1 rfl rfl ?_
    have hB := (Ex.tr hB0 hE2)
    refine ⟨congrArg Value.bool ?_, hB⟩; rw [eq_comm]; first | (rw [decide_eq_decide]; unfold Okay; omega) | (rw [decide_eq_false_iff_not]; unfold Okay; omega)
  ·refine RG.pass rfl rfl rfl ?_
   refine RG.pass rfl rfl rfl ?_
   refine RG.pass rfl rfl rfl ?_
   refine RG.vl rfl rfl rfl (Ev.pickF rfl rfl rfl) ?_
   refine RG.vl rfl rfl rfl (Ev.move rfl rfl) ?_
   refine RG.pass rfl rfl rfl ?_
   refine RG.pass rfl rfl rfl ?_
   refine RG.pass rfl rfl rfl ?_
   refine RG.vl rfl rfl rfl (Ev.pickF rfl rfl rfl) ?_
   refine RG.vl rfl rfl rfl (Ev.move rfl rfl) ?_
   refine RG.pass rfl rfl rfl ?_
   refine RG.pass rfl rfl rfl ?_
   refine RG.pass rfl rfl rfl ?_
   refine RG.vl rfl rfl rfl (Ev.pickF rfl rfl rfl) ?_
   refine RG.vl rfl rfl rfl (Ev.move rfl rfl) ?_
   refine RG.pass rfl rfl rfl ?_
   refine RG.pass rfl rfl rfl ?_
   refine RG.pass rfl rfl rfl ?_
   refine RG.vl rfl rfl rfl (Ev.pickF rfl rfl rfl) ?_
   refine RG.vl rfl rfl rfl (Ev.move rfl rfl) ?_
   refine RG.pass rfl rfl rfl ?_
   refine RG.pass rfl rfl rfl ?_
   refine RG.pass rfl rfl rfl ?_
   refine RG.vl rfl rfl rfl (Ev.pickF rfl rfl rfl) ?_
   refine RG.vl rfl rfl rfl (Ev.move rfl rfl) ?_
   refine RG.pass rfl rfl rfl ?_
   refine RG.pass rfl rfl rfl ?_
   refine RG.pass rfl rfl rfl ?_
   refine RG.pass rfl rfl rfl ?_
   refine RG.pass rfl rfl rfl ?_
   refine RG.pass rfl rfl rfl ?_
   refine RG.pass rfl rfl rfl ?_
   refine RG.vl rfl rfl rfl (Ev.pickF rfl rfl rfl) ?_
   refine RG.vl rfl rfl rfl (Ev.move rfl rfl) ?_
   refine RG.pass rfl rfl rfl ?_
   refine RG.pass rfl rfl rfl ?_
   refine RG.pass rfl rfl rfl ?_
   refine RG.vl rfl rfl rfl (Ev.pickF rfl rfl rfl) ?_
   refine RG.vl rfl rfl rfl (Ev.move rfl rfl) ?_
   refine RG.pass rfl rfl rfl ?_
   refine RG.pass rfl rfl rfl ?_
   refine RG.pass rfl rfl rfl ?_
   refine RG.pass rfl rfl rfl ?_
   refine RG.pass rfl rfl rfl ?_
   refine RG.vl rfl rfl rfl (Ev.pickF rfl rfl rfl) ?_
   refine RG.vl rfl rfl rfl (Ev.move rfl rfl) ?_
   refine RG.pass rfl rfl rfl ?_
   refine RG.pass rfl rfl rfl ?_
   refine RG.pass rfl rfl rfl ?_
   refine RG.vl rfl rfl rfl (Ev.pickF rfl rfl rfl) ?_
   refine RG.vl rfl rfl rfl (Ev.assign rfl rfl) ?_
   refine RG.done ?_
   refine QW.sub (S' := [(2, _)]) ⟨rfl, trivial⟩ ?_
   refine QW.then_ (CW.ret ?_)
   refine QW.ret1 rfl rfl ?_
   have hB := (Ex.tr hB0 hE2)
   refine ⟨congrArg Value.bool ?_, hB⟩; rw [eq_comm]; first | (rw [decide_eq_decide]; unfold Okay; omega) | (rw [decide_eq_false_iff_not]; unfold Okay; omega)
 ·refine RG.pass rfl rfl rfl ?_
  refine RG.pass rfl rfl rfl ?_
  refine RG.pass rfl rfl rfl ?_
  refine RG.vl rfl rfl rfl (Ev.pickF rfl rfl rfl) ?_
  refine RG.vl rfl rfl rfl (Ev.move rfl rfl) ?_
  refine RG.pass rfl rfl rfl ?_
  refine RG.pass rfl rfl rfl ?_
  refine RG.pass rfl rfl rfl ?_
  refine RG.vl rfl rfl rfl (Ev.pickF rfl rfl rfl) ?_
  refine RG.vl rfl rfl rfl (Ev.move rfl rfl) ?_
  refine RG.pass rfl rfl rfl ?_
  refine RG.pass rfl rfl rfl ?_
  refine RG.pass rfl rfl rfl ?_
  refine RG.vl rfl rfl rfl (Ev.pickF rfl rfl rfl) ?_
  refine RG.vl rfl rfl rfl (Ev.move rfl rfl) ?_
  refine RG.pass rfl rfl rfl ?_
  refine RG.pass rfl rfl rfl ?_
  refine RG.pass rfl rfl rfl ?_
  refine RG.vl rfl rfl rfl (Ev.pickF rfl rfl rfl) ?_
  refine RG.vl rfl rfl rfl (Ev.move rfl rfl) ?_
  refine RG.pass rfl rfl rfl ?_
  refine RG.pass rfl rfl rfl ?_
  refine RG.pass rfl rfl rfl ?_
  refine RG.vl rfl rfl rfl (Ev.pickF rfl rfl rfl) ?_
  refine RG.vl rfl rfl rfl (Ev.move rfl rfl) ?_
  refine RG.pass rfl rfl rfl ?_
  refine RG.pass rfl rfl rfl ?_
  refine RG.pass rfl rfl rfl ?_
  refine RG.vl rfl rfl rfl (Ev.pickF rfl rfl rfl) ?_
  refine RG.vl rfl rfl rfl (Ev.move rfl rfl) ?_
  refine RG.pass rfl rfl rfl ?_
  refine RG.pass rfl rfl rfl ?_
  refine RG.pass rfl rfl rfl ?_
  refine RG.pass rfl rfl rfl ?_
  refine RG.pass rfl rfl rfl ?_
  refine RG.pass rfl rfl rfl ?_
  refine RG.pass rfl rfl rfl ?_
  refine RG.vl rfl rfl rfl (Ev.pickF rfl rfl rfl) ?_
  refine RG.vl rfl rfl rfl (Ev.move rfl rfl) ?_
  refine RG.pass rfl rfl rfl ?_
  refine RG.pass rfl rfl rfl ?_
  refine RG.pass rfl rfl rfl ?_
  refine RG.vl rfl rfl rfl (Ev.pickF rfl rfl rfl) ?_
  refine RG.vl rfl rfl rfl (Ev.move rfl rfl) ?_
  refine RG.pass rfl rfl rfl ?_
  refine RG.pass rfl rfl rfl ?_
  refine RG.pass rfl rfl rfl ?_
  refine RG.pass rfl rfl rfl ?_
  refine RG.pass rfl rfl rfl ?_
  refine RG.vl rfl rfl rfl (Ev.pickF rfl rfl rfl) ?_
  refine RG.vl rfl rfl rfl (Ev.move rfl rfl) ?_
  refine RG.pass rfl rfl rfl ?_
  refine RG.pass rfl rfl rfl ?_
  refine RG.pass rfl rfl rfl ?_
  refine RG.vl rfl rfl rfl (Ev.pickF rfl rfl rfl) ?_
  refine RG.vl rfl rfl rfl (Ev.assign rfl rfl) ?_
  refine RG.done ?_
  refine QW.sub (S' := [(2, _)]) ⟨rfl, trivial⟩ ?_
  refine QW.then_ (CW.ret ?_)
  refine QW.ret1 rfl rfl ?_
  have hB := (Ex.tr hB0 hE2)
  refine ⟨congrArg Value.bool ?_, hB⟩; rw [eq_comm]; first | (rw [decide_eq_decide]; unfold Okay; omega) | (rw [decide_eq_false_iff_not]; unfold Okay; omega)

set_option maxRecDepth 100000 in
set_option maxHeartbeats 1000000 in
theorem rright_ret (s : Su) (w : World)  :
  Ret Tryz.prog 24 [s.v] w (fun v w' => v = .bool (decide (Okay s)) ∧ Ex w w') := by
 have hB0 : Ex w w := Ex.rfl_ _
 refine Ret.of Tryz.func24 rfl Tryz.ntmps24 rfl ?_
 refine CW.seq (CW.region ?_)
 refine RG.box rfl rfl rfl rfl rfl (fun g1 w1 eg1 hx1 hb1 => ?_)
 have hE2 := hx1
 refine RG.vl rfl rfl rfl (Ev.assign rfl rfl) ?_
 refine RG.done (QW.then_ (CW.seq (CW.seq (CW.region ?_))))
 refine RG.vl rfl rfl rfl (Ev.fld rfl rfl fld_38_0) ?_
 refine RG.vl rfl rfl rfl (Ev.ldAt rfl rfl Tryz.underlying3 rfl (hb1.cells) (rfl)) ?_
 refine RG.vl rfl rfl rfl (Ev.lss rfl rfl rfl) ?_
 refine RG.vl rfl rfl rfl (Ev.move rfl rfl) ?_
 refine RG.split (d := 6) rfl (fun hg3 => ?_) (fun hg3 => ?_)
 ·refine RG.pass rfl rfl rfl ?_
  refine RG.pass rfl rfl rfl ?_
  refine RG.pass rfl rfl rfl ?_
  refine RG.vl rfl rfl rfl (Ev.pickT rfl rfl rfl) ?_
  refine RG.vl rfl rfl rfl (Ev.move rfl rfl) ?_
  refine RG.pass rfl rfl rfl ?_
  refine RG.pass rfl rfl rfl ?_
  refine RG.pass rfl rfl rfl ?_
  refine RG.vl rfl rfl rfl (Ev.pickT rfl rfl rfl) ?_
  refine RG.vl rfl rfl rfl (Ev.move rfl rfl) ?_
  refine RG.pass rfl rfl rfl ?_
  refine RG.pass rfl rfl rfl ?_
  refine RG.pass rfl rfl rfl ?_
  refine RG.vl rfl rfl rfl (Ev.pickT rfl rfl rfl) ?_
  refine RG.vl rfl rfl rfl (Ev.move rfl rfl) ?_
  refine RG.pass rfl rfl rfl ?_
  refine RG.pass rfl rfl rfl ?_
  refine RG.pass rfl rfl rfl ?_
  refine RG.vl rfl rfl rfl (Ev.pickT rfl rfl rfl) ?_
  refine RG.vl rfl rfl rfl (Ev.move rfl rfl) ?_
  refine RG.pass rfl rfl rfl ?_
  refine RG.pass rfl rfl rfl ?_
  refine RG.pass rfl rfl rfl ?_
  refine RG.vl rfl rfl rfl (Ev.pickT rfl rfl rfl) ?_
  refine RG.done ?_
  refine QW.sub (S' := [(1, _), (2, _), (30, _)]) ⟨rfl, rfl, rfl, trivial⟩ ?_
  refine QW.then_ ?_
  refine CW.condT rfl ?_
  refine CW.seq (CW.region ?_)
  refine RG.vl rfl rfl rfl (Ev.assign rfl rfl) ?_
  refine RG.done (QW.then_ (CW.ret (QW.thenRet ?_)))
  refine QW.ret1 rfl rfl ?_
  have hB := (Ex.tr hB0 hE2)
  refine ⟨congrArg Value.bool ?_, hB⟩; rw [eq_comm]; first | (rw [decide_eq_decide]; unfold Okay; omega) | (rw [decide_eq_false_iff_not]; unfold Okay; omega)
 ·refine RG.vl rfl rfl rfl (Ev.fld rfl rfl fld_38_0) ?_
  refine RG.vl rfl rfl rfl (Ev.ldAt rfl rfl Tryz.underlying3 rfl (hb1.cells) (rfl)) ?_
  refine RG.vl rfl rfl rfl (Ev.gtr rfl rfl rfl) ?_
  refine RG.vl rfl rfl rfl (Ev.pickF rfl rfl rfl) ?_
  refine RG.vl rfl rfl rfl (Ev.move rfl rfl) ?_
  refine RG.split (d := 11) rfl (fun hg4 => ?_) (fun hg4 => ?_)
  ·refine RG.pass rfl rfl rfl ?_
   refine RG.pass rfl rfl rfl ?_
   refine RG.pass rfl rfl rfl ?_
   refine RG.vl rfl rfl rfl (Ev.pickT rfl rfl rfl) ?_
   refine RG.vl rfl rfl rfl (Ev.move rfl rfl) ?_
   refine RG.pass rfl rfl rfl ?_
   refine RG.pass rfl rfl rfl ?_
   refine RG.pass rfl rfl rfl ?_
   refine RG.vl rfl rfl rfl (Ev.pickT rfl rfl rfl) ?_
   refine RG.vl rfl rfl rfl (Ev.move rfl rfl) ?_
   refine RG.pass rfl rfl rfl ?_
   refine RG.pass rfl rfl rfl ?_
   refine RG.pass rfl rfl rfl ?_
   refine RG.vl rfl rfl rfl (Ev.pickT rfl rfl rfl) ?_
   refine RG.vl rfl rfl rfl (Ev.move rfl rfl) ?_
   refine RG.pass rfl rfl rfl ?_
   refine RG.pass rfl rfl rfl ?_
   refine RG.pass rfl rfl rfl ?_
   refine RG.vl rfl rfl rfl (Ev.pickT rfl rfl rfl) ?_
   refine RG.done ?_
   refine QW.sub (S' := [(1, _), (2, _), (30, _)]) ⟨rfl, rfl, rfl, trivial⟩ ?_
   refine QW.then_ ?_
   refine CW.condT rfl ?_
   refine CW.seq (CW.region ?_)
   refine RG.vl rfl rfl rfl (Ev.assign rfl rfl) ?_
   refine RG.done (QW.then_ (CW.ret (QW.thenRet ?_)))
   refine QW.ret1 rfl rfl ?_
   have hB := (Ex.tr hB0 hE2)
   refine ⟨congrArg Value.bool ?_, hB⟩; rw [eq_comm]; first | (rw [decide_eq_decide]; unfold Okay; omega) | (rw [decide_eq_false_iff_not]; unfold Okay; omega)
  ·refine RG.vl rfl rfl rfl (Ev.fld rfl rfl fld_38_2) ?_
   refine RG.vl rfl rfl rfl (Ev.ldAt rfl rfl Tryz.underlying3 rfl (hb1.cells) (rfl)) ?_
   refine RG.vl rfl rfl rfl (Ev.lss rfl rfl rfl) ?_
   refine RG.vl rfl rfl rfl (Ev.pickF rfl rfl rfl) ?_
   refine RG.vl rfl rfl rfl (Ev.move rfl rfl) ?_
   refine RG.split (d := 16) rfl (fun hg5 => ?_) (fun hg5 => ?_)
   ·refine RG.pass rfl rfl rfl ?_
    refine RG.pass rfl rfl rfl ?_
    refine RG.pass rfl rfl rfl ?_
    refine RG.vl rfl rfl rfl (Ev.pickT rfl rfl rfl) ?_
    refine RG.vl rfl rfl rfl (Ev.move rfl rfl) ?_
    refine RG.pass rfl rfl rfl ?_
    refine RG.pass rfl rfl rfl ?_
    refine RG.pass rfl rfl rfl ?_
    refine RG.vl rfl rfl rfl (Ev.pickT rfl rfl rfl) ?_
    refine RG.vl rfl rfl rfl (Ev.move rfl rfl) ?_
    refine RG.pass rfl rfl rfl ?_
    refine RG.pass rfl rfl rfl ?_
    refine RG.pass rfl rfl rfl ?_
    refine RG.vl rfl rfl rfl (Ev.pickT rfl rfl rfl) ?_
    refine RG.done ?_
    refine QW.sub (S' := [(1, _), (2, _), (30, _)]) ⟨rfl, rfl, rfl, trivial⟩ ?_
    refine QW.then_ ?_
    refine CW.condT rfl ?_
    refine CW.seq (CW.region ?_)
    refine RG.vl rfl rfl rfl (Ev.assign rfl rfl) ?_
    refine RG.done (QW.then_ (CW.ret (QW.thenRet ?_)))
    refine QW.ret1 rfl rfl ?_
    have hB := (Ex.tr hB0 hE2)
    refine ⟨congrArg Value.bool ?_, hB⟩; rw [eq_comm]; first | (rw [decide_eq_decide]; unfold Okay; omega) | (rw [decide_eq_false_iff_not]; unfold Okay; omega)
   ·refine RG.vl rfl rfl rfl (Ev.fld rfl rfl fld_38_2) ?_
    refine RG.vl rfl rfl rfl (Ev.ldAt rfl rfl Tryz.underlying3 rfl (hb1.cells) (rfl)) ?_
    refine RG.vl rfl rfl rfl (Ev.gtr rfl rfl rfl) ?_
    refine RG.vl rfl rfl rfl (Ev.pickF rfl rfl rfl) ?_
    refine RG.vl rfl rfl rfl (Ev.move rfl rfl) ?_
    refine RG.split (d := 21) rfl (fun hg6 => ?_) (fun hg6 => ?_)
    ·refine RG.pass rfl rfl rfl ?_
     refine RG.pass rfl rfl rfl ?_
     refine RG.pass rfl rfl rfl ?_
     refine RG.vl rfl rfl rfl (Ev.pickT rfl rfl rfl) ?_
     refine RG.vl rfl rfl rfl (Ev.move rfl rfl) ?_
     refine RG.pass rfl rfl rfl ?_
     refine RG.pass rfl rfl rfl ?_
     refine RG.pass rfl rfl rfl ?_
     refine RG.vl rfl rfl rfl (Ev.pickT rfl rfl rfl) ?_
     refine RG.done ?_
     refine QW.sub (S' := [(1, _), (2, _), (30, _)]) ⟨rfl, rfl, rfl, trivial⟩ ?_
     refine QW.then_ ?_
     refine CW.condT rfl ?_
     refine CW.seq (CW.region ?_)
     refine RG.vl rfl rfl rfl (Ev.assign rfl rfl) ?_
     refine RG.done (QW.then_ (CW.ret (QW.thenRet ?_)))
     refine QW.ret1 rfl rfl ?_
     have hB := (Ex.tr hB0 hE2)
     refine ⟨congrArg Value.bool ?_, hB⟩; rw [eq_comm]; first | (rw [decide_eq_decide]; unfold Okay; omega) | (rw [decide_eq_false_iff_not]; unfold Okay; omega)
    ·refine RG.vl rfl rfl rfl (Ev.fld rfl rfl fld_38_1) ?_
     refine RG.vl rfl rfl rfl (Ev.ldAt rfl rfl Tryz.underlying3 rfl (hb1.cells) (rfl)) ?_
     refine RG.vl rfl rfl rfl (Ev.lss rfl rfl rfl) ?_
     refine RG.vl rfl rfl rfl (Ev.pickF rfl rfl rfl) ?_
     refine RG.vl rfl rfl rfl (Ev.move rfl rfl) ?_
     refine RG.split (d := 26) rfl (fun hg7 => ?_) (fun hg7 => ?_)
     ·refine RG.pass rfl rfl rfl ?_
      refine RG.pass rfl rfl rfl ?_
      refine RG.pass rfl rfl rfl ?_
      refine RG.vl rfl rfl rfl (Ev.pickT rfl rfl rfl) ?_
      refine RG.done ?_
      refine QW.sub (S' := [(1, _), (2, _), (30, _)]) ⟨rfl, rfl, rfl, trivial⟩ ?_
      refine QW.then_ ?_
      refine CW.condT rfl ?_
      refine CW.seq (CW.region ?_)
      refine RG.vl rfl rfl rfl (Ev.assign rfl rfl) ?_
      refine RG.done (QW.then_ (CW.ret (QW.thenRet ?_)))
      refine QW.ret1 rfl rfl ?_
      have hB := (Ex.tr hB0 hE2)
      refine ⟨congrArg Value.bool ?_, hB⟩; rw [eq_comm]; first | (rw [decide_eq_decide]; unfold Okay; omega) | (rw [decide_eq_false_iff_not]; unfold Okay; omega)
     ·refine RG.vl rfl rfl rfl (Ev.fld rfl rfl fld_38_1) ?_
      refine RG.vl rfl rfl rfl (Ev.ldAt rfl rfl Tryz.underlying3 rfl (hb1.cells) (rfl)) ?_
      refine RG.vl rfl rfl rfl (Ev.gtr rfl rfl rfl) ?_
      refine RG.vl rfl rfl rfl (Ev.pickF rfl rfl rfl) ?_
      refine RG.done ?_
      refine QW.sub (S' := [(1, _), (2, _), (30, _)]) ⟨rfl, rfl, rfl, trivial⟩ ?_
      refine QW.then_ ?_
      refine CW.condP rfl (fun hc8 => ?_) (fun hc8 => ?_)
      ·refine CW.seq (CW.region ?_)
       refine RG.vl rfl rfl rfl (Ev.assign rfl rfl) ?_
       refine RG.done (QW.then_ (CW.ret (QW.thenRet ?_)))
       refine QW.ret1 rfl rfl ?_
       have hB := (Ex.tr hB0 hE2)
       refine ⟨congrArg Value.bool ?_, hB⟩; rw [eq_comm]; first | (rw [decide_eq_decide]; unfold Okay; omega) | (rw [decide_eq_false_iff_not]; unfold Okay; omega)
      ·refine CW.skip (QW.then_ (CW.seq (CW.region ?_)))
       refine RG.vl rfl rfl rfl (Ev.fld rfl rfl fld_38_3) ?_
       refine RG.vl rfl rfl rfl (Ev.ldAt rfl rfl Tryz.underlying3 rfl (hb1.cells) (rfl)) ?_
       refine RG.vl rfl rfl rfl (Ev.geq rfl rfl rfl) ?_
       refine RG.vl rfl rfl rfl (Ev.move rfl rfl) ?_
       refine RG.split (d := 34) rfl (fun hg9 => ?_) (fun hg9 => ?_)
       ·refine RG.vl rfl rfl rfl (Ev.fld rfl rfl fld_38_3) ?_
        refine RG.vl rfl rfl rfl (Ev.ldAt rfl rfl Tryz.underlying3 rfl (hb1.cells) (rfl)) ?_
        refine RG.vl rfl rfl rfl (Ev.fld rfl rfl fld_38_2) ?_
        refine RG.vl rfl rfl rfl (Ev.ldAt rfl rfl Tryz.underlying3 rfl (hb1.cells) (rfl)) ?_
        refine RG.vl rfl rfl rfl (Ev.lss rfl rfl rfl) ?_
        refine RG.vl rfl rfl rfl (Ev.pickT rfl rfl rfl) ?_
        refine RG.vl rfl rfl rfl (Ev.move rfl rfl) ?_
        refine RG.split (d := 41) rfl (fun hg10 => ?_) (fun hg10 => ?_)
        ·refine RG.vl rfl rfl rfl (Ev.fld rfl rfl fld_38_3) ?_
         refine RG.vl rfl rfl rfl (Ev.ldAt rfl rfl Tryz.underlying3 rfl (hb1.cells) (rfl)) ?_
         refine RG.vl rfl rfl rfl (Ev.mulI rfl rfl rfl (by omega)) ?_
         refine RG.vl rfl rfl rfl (Ev.fld rfl rfl fld_38_2) ?_
         refine RG.vl rfl rfl rfl (Ev.ldAt rfl rfl Tryz.underlying3 rfl (hb1.cells) (rfl)) ?_
         refine RG.vl rfl rfl rfl (Ev.lss rfl rfl rfl) ?_
         refine RG.vl rfl rfl rfl (Ev.pickT rfl rfl rfl) ?_
         refine RG.vl rfl rfl rfl (Ev.move rfl rfl) ?_
         refine RG.split (d := 49) rfl (fun hg11 => ?_) (fun hg11 => ?_)
         ·refine RG.vl rfl rfl rfl (Ev.fld rfl rfl fld_38_4) ?_
          refine RG.vl rfl rfl rfl (Ev.ldAt rfl rfl Tryz.underlying3 rfl (hb1.cells) (rfl)) ?_
          refine RG.vl rfl rfl rfl (Ev.geq rfl rfl rfl) ?_
          refine RG.vl rfl rfl rfl (Ev.pickT rfl rfl rfl) ?_
          refine RG.vl rfl rfl rfl (Ev.move rfl rfl) ?_
          refine RG.split (d := 54) rfl (fun hg12 => ?_) (fun hg12 => ?_)
          ·refine RG.vl rfl rfl rfl (Ev.fld rfl rfl fld_38_4) ?_
           refine RG.vl rfl rfl rfl (Ev.ldAt rfl rfl Tryz.underlying3 rfl (hb1.cells) (rfl)) ?_
           refine RG.vl rfl rfl rfl (Ev.fld rfl rfl fld_38_5) ?_
           refine RG.vl rfl rfl rfl (Ev.ldAt rfl rfl Tryz.underlying3 rfl (hb1.cells) (rfl)) ?_
           refine RG.vl rfl rfl rfl (Ev.lss rfl rfl rfl) ?_
           refine RG.vl rfl rfl rfl (Ev.pickT rfl rfl rfl) ?_
           refine RG.vl rfl rfl rfl (Ev.move rfl rfl) ?_
           refine RG.split (d := 61) rfl (fun hg13 => ?_) (fun hg13 => ?_)
           ·refine RG.vl rfl rfl rfl (Ev.fld rfl rfl fld_38_5) ?_
            refine RG.vl rfl rfl rfl (Ev.ldAt rfl rfl Tryz.underlying3 rfl (hb1.cells) (rfl)) ?_
            refine RG.vl rfl rfl rfl (Ev.leq rfl rfl rfl) ?_
            refine RG.vl rfl rfl rfl (Ev.pickT rfl rfl rfl) ?_
            refine RG.vl rfl rfl rfl (Ev.assign rfl rfl) ?_
            refine RG.done ?_
            refine QW.sub (S' := [(2, _)]) ⟨rfl, trivial⟩ ?_
            refine QW.then_ (CW.ret ?_)
            refine QW.ret1 rfl rfl ?_
            have hB := (Ex.tr hB0 hE2)
            refine ⟨congrArg Value.bool ?_, hB⟩; rw [eq_comm]; first | (rw [decide_eq_decide]; unfold Okay; omega) | (rw [decide_eq_false_iff_not]; unfold Okay; omega)
           ·refine RG.pass rfl rfl rfl ?_
            refine RG.pass rfl rfl rfl ?_
            refine RG.pass rfl rfl rfl ?_
            refine RG.vl rfl rfl rfl (Ev.pickF rfl rfl rfl) ?_
            refine RG.vl rfl rfl rfl (Ev.assign rfl rfl) ?_
            refine RG.done ?_
            refine QW.sub (S' := [(2, _)]) ⟨rfl, trivial⟩ ?_
            refine QW.then_ (CW.ret ?_)
            refine QW.ret1 rfl rfl ?_
            have hB := (Ex.tr hB0 hE2)
            refine ⟨congrArg Value.bool ?_, hB⟩; rw [eq_comm]; first | (rw [decide_eq_decide]; unfold Okay; omega) | (rw [decide_eq_false_iff_not]; unfold Okay; omega)
          ·refine RG.pass rfl rfl rfl ?_
           refine RG.pass rfl rfl rfl ?_
           refine RG.pass rfl rfl rfl ?_
           refine RG.pass rfl rfl rfl ?_
           refine RG.pass rfl rfl rfl ?_
           refine RG.vl rfl rfl rfl (Ev.pickF rfl rfl rfl) ?_
           refine RG.vl rfl rfl rfl (Ev.move rfl rfl) ?_
           refine RG.pass rfl rfl rfl ?_
           refine RG.pass rfl rfl rfl ?_
           refine RG.pass rfl rfl rfl ?_
           refine RG.vl rfl rfl rfl (Ev.pickF rfl rfl rfl) ?_
           refine RG.vl rfl rfl rfl (Ev.assign rfl rfl) ?_
           refine RG.done ?_
           refine QW.sub (S' := [(2, _)]) ⟨rfl, trivial⟩ ?_
           refine QW.then_ (CW.ret ?_)
           refine QW.ret1 rfl rfl ?_
           have hB := (Ex.tr hB0 hE2)
           refine ⟨congrArg Value.bool ?_, hB⟩; rw [eq_comm]; first | (rw [decide_eq_decide]; unfold Okay; omega) | (rw [decide_eq_false_iff_not]; unfold Okay; omega)
         ·refine RG.pass rfl rfl rfl ?_
          refine RG.pass rfl rfl rfl ?_
          refine RG.pass rfl rfl rfl ?_
          refine RG.vl rfl rfl rfl (Ev.pickF rfl rfl rfl) ?_
          refine RG.vl rfl rfl rfl (Ev.move rfl rfl) ?_
          refine RG.pass rfl rfl rfl ?_
          refine RG.pass rfl rfl rfl ?_
          refine RG.pass rfl rfl rfl ?_
          refine RG.pass rfl rfl rfl ?_
          refine RG.pass rfl rfl rfl ?_
          refine RG.vl rfl rfl rfl (Ev.pickF rfl rfl rfl) ?_
          refine RG.vl rfl rfl rfl (Ev.move rfl rfl) ?_
          refine RG.pass rfl rfl rfl ?_
          refine RG.pass rfl rfl rfl ?_
          refine RG.pass rfl rfl rfl ?_
          refine RG.vl rfl rfl rfl (Ev.pickF rfl rfl rfl) ?_
          refine RG.vl rfl rfl rfl (Ev.assign rfl rfl) ?_
          refine RG.done ?_
          refine QW.sub (S' := [(2, _)]) ⟨rfl, trivial⟩ ?_
          refine QW.then_ (CW.ret ?_)
          refine QW.ret1 rfl rfl ?_
          have hB := (Ex.tr hB0 hE2)
          refine ⟨congrArg Value.bool ?_, hB⟩; rw [eq_comm]; first | (rw [decide_eq_decide]; unfold Okay; omega) | (rw [decide_eq_false_iff_not]; unfold Okay; omega)
        ·refine RG.pass rfl rfl rfl ?_
         refine RG.pass rfl rfl rfl ?_
         refine RG.pass rfl rfl rfl ?_
         refine RG.pass rfl rfl rfl ?_
         refine RG.pass rfl rfl rfl ?_
         refine RG.pass rfl rfl rfl ?_
         refine RG.vl rfl rfl rfl (Ev.pickF rfl rfl rfl) ?_
         refine RG.vl rfl rfl rfl (Ev.move rfl rfl) ?_
         refine RG.pass rfl rfl rfl ?_
         refine RG.pass rfl rfl rfl ?_
         refine RG.pass rfl rfl rfl ?_
         refine RG.vl rfl rfl rfl (Ev.pickF rfl rfl rfl) ?_
         refine RG.vl rfl rfl rfl (Ev.move rfl rfl) ?_
         refine RG.pass rfl rfl rfl ?_
         refine RG.pass rfl rfl rfl ?_
         refine RG.pass rfl rfl rfl ?_
         refine RG.pass rfl rfl rfl ?_
         refine RG.pass rfl rfl rfl ?_
         refine RG.vl rfl rfl rfl (Ev.pickF rfl rfl rfl) ?_
         refine RG.vl rfl rfl rfl (Ev.move rfl rfl) ?_
         refine RG.pass rfl rfl rfl ?_
         refine RG.pass rfl rfl rfl ?_
         refine RG.pass rfl rfl rfl ?_
         refine RG.vl rfl rfl rfl (Ev.pickF rfl rfl rfl) ?_
         refine RG.vl rfl rfl rfl (Ev.assign rfl rfl) ?_
         refine RG.done ?_
         refine QW.sub (S' := [(2, _)]) ⟨rfl, trivial⟩ ?_
         refine QW.then_ (CW.ret ?_)
         refine QW.ret1 rfl rfl ?_
         have hB := (Ex.tr hB0 hE2)
         refine ⟨congrArg Value.bool ?_, hB⟩; rw [eq_comm]; first | (rw [decide_eq_decide]; unfold Okay; omega) | (rw [decide_eq_false_iff_not]; unfold Okay; omega)
       ·refine RG.pass rfl rfl rfl ?_
        refine RG.pass rfl rfl rfl ?_
        refine RG.pass rfl rfl rfl ?_
        refine RG.pass rfl rfl rfl ?_
        refine RG.pass rfl rfl rfl ?_
        refine RG.vl rfl rfl rfl (Ev.pickF rfl rfl rfl) ?_
        refine RG.vl rfl rfl rfl (Ev.move rfl rfl) ?_
        refine RG.pass rfl rfl rfl ?_
        refine RG.pass rfl rfl rfl ?_
        refine RG.pass rfl rfl rfl ?_
        refine RG.pass rfl rfl rfl ?_
        refine RG.pass rfl rfl rfl ?_
        refine RG.pass rfl rfl rfl ?_
        refine RG.vl rfl rfl rfl (Ev.pickF rfl rfl rfl) ?_
        refine RG.vl rfl rfl rfl (Ev.move rfl rfl) ?_
        refine RG.pass rfl rfl rfl ?_
        refine RG.pass rfl rfl rfl ?_
        refine RG.pass rfl rfl rfl ?_
        refine RG.vl rfl rfl rfl (Ev.pickF rfl rfl rfl) ?_
        refine RG.vl rfl rfl rfl (Ev.move rfl rfl) ?_
        refine RG.pass rfl rfl rfl ?_
        refine RG.pass rfl rfl rfl ?_
        refine RG.pass rfl rfl rfl ?_
        refine RG.pass rfl rfl rfl ?_
        refine RG.pass rfl rfl rfl ?_
        refine RG.vl rfl rfl rfl (Ev.pickF rfl rfl rfl) ?_
        refine RG.vl rfl rfl rfl (Ev.move rfl rfl) ?_
        refine RG.pass rfl rfl rfl ?_
        refine RG.pass rfl rfl rfl ?_
        refine RG.pass rfl rfl rfl ?_
        refine RG.vl rfl rfl rfl (Ev.pickF rfl rfl rfl) ?_
        refine RG.vl rfl rfl rfl (Ev.assign rfl rfl) ?_
        refine RG.done ?_
        refine QW.sub (S' := [(2, _)]) ⟨rfl, trivial⟩ ?_
        refine QW.then_ (CW.ret ?_)
        refine QW.ret1 rfl rfl ?_
        have hB := (Ex.tr hB0 hE2)
        refine ⟨congrArg Value.bool ?_, hB⟩; rw [eq_comm]; first | (rw [decide_eq_decide]; unfold Okay; omega) | (rw [decide_eq_false_iff_not]; unfold Okay; omega)

set_option maxRecDepth 100000 in
set_option maxHeartbeats 1000000 in
theorem stands_ret (s : Su) (b : Br) (k : Int) (w : World) (hs : Okay s) (hb : InB b) (h0 : 0 ≤ k) (h1 : k ≤ 200) :
  Ret Tryz.prog 51 [s.v, b.v, .int .i64 k] w (fun v w' => v = .bool (decide (Stand s b k)) ∧ Ex w w') := by
 have hkp := kpi s k hs h0 (by omega)
 obtain ⟨a1, a2, a3, a4, a5, a6, a7, a8, a9, a10, a11⟩ := hs
 obtain ⟨b1, b2, b3, b4, b5, b6⟩ := hb
 have hB0 : Ex w w := Ex.rfl_ _
 refine Ret.of Tryz.func51 rfl Tryz.ntmps51 rfl ?_
 refine CW.seq (CW.region ?_)
 refine RG.box rfl rfl rfl rfl rfl (fun g1 w1 eg1 hx1 hb1 => ?_)
 have hE2 := hx1
 refine RG.box rfl rfl rfl rfl rfl (fun g3 w3 eg3 hx3 hb3 => ?_)
 replace hE2 := Ex.tr hE2 hx3
 have hE4 := hx3
 refine RG.vl rfl rfl rfl (Ev.assign rfl rfl) ?_
 refine RG.done (QW.then_ (CW.seq (CW.region ?_)))
 refine RG.vl rfl rfl rfl (Ev.fld rfl rfl fld_38_1) ?_
 refine RG.vl rfl rfl rfl (Ev.ldAt rfl rfl Tryz.underlying3 rfl ((hb1.ext hE4).cells) (rfl)) ?_
 refine RG.vl rfl rfl rfl (Ev.move rfl rfl) ?_
 refine RG.vl rfl rfl rfl (Ev.fld rfl rfl fld_38_2) ?_
 refine RG.vl rfl rfl rfl (Ev.ldAt rfl rfl Tryz.underlying3 rfl ((hb1.ext hE4).cells) (rfl)) ?_
 refine RG.vl rfl rfl rfl (Ev.mulI rfl rfl rfl (by omega)) ?_
 refine RG.vl rfl rfl rfl (Ev.addI rfl rfl rfl (by omega)) ?_
 refine RG.vl rfl rfl rfl (Ev.assign rfl rfl) ?_
 refine RG.done (QW.then_ (CW.seq (CW.region ?_)))
 refine RG.vl rfl rfl rfl (Ev.fld rfl rfl fld_37_0) ?_
 refine RG.vl rfl rfl rfl (Ev.ldAt rfl rfl Tryz.underlying3 rfl (hb3.cells) (rfl)) ?_
 refine RG.vl rfl rfl rfl (Ev.move rfl rfl) ?_
 refine RG.vl rfl rfl rfl (Ev.fld rfl rfl fld_38_3) ?_
 refine RG.vl rfl rfl rfl (Ev.ldAt rfl rfl Tryz.underlying3 rfl ((hb1.ext hE4).cells) (rfl)) ?_
 refine RG.vl rfl rfl rfl (Ev.addI rfl rfl rfl (by omega)) ?_
 refine RG.vl rfl rfl rfl (Ev.leq rfl rfl rfl) ?_
 refine RG.vl rfl rfl rfl (Ev.move rfl rfl) ?_
 refine RG.split (d := 22) rfl (fun hg5 => ?_) (fun hg5 => ?_)
 ·refine RG.vl rfl rfl rfl (Ev.fld rfl rfl fld_37_0) ?_
  refine RG.vl rfl rfl rfl (Ev.ldAt rfl rfl Tryz.underlying3 rfl (hb3.cells) (rfl)) ?_
  refine RG.vl rfl rfl rfl (Ev.move rfl rfl) ?_
  refine RG.vl rfl rfl rfl (Ev.fld rfl rfl fld_38_3) ?_
  refine RG.vl rfl rfl rfl (Ev.ldAt rfl rfl Tryz.underlying3 rfl ((hb1.ext hE4).cells) (rfl)) ?_
  refine RG.vl rfl rfl rfl (Ev.subI rfl rfl rfl (by omega)) ?_
  refine RG.vl rfl rfl rfl (Ev.geq rfl rfl rfl) ?_
  refine RG.vl rfl rfl rfl (Ev.pickT rfl rfl rfl) ?_
  refine RG.vl rfl rfl rfl (Ev.assign rfl rfl) ?_
  refine RG.done ?_
  refine QW.sub (S' := [(6, _)]) ⟨rfl, trivial⟩ ?_
  refine QW.then_ (CW.ret ?_)
  refine QW.ret1 rfl rfl ?_
  have hB := (Ex.tr hB0 hE2)
  refine ⟨congrArg Value.bool ?_, hB⟩; rw [eq_comm]; first | (rw [decide_eq_decide]; unfold Stand; omega) | (rw [decide_eq_false_iff_not]; unfold Stand; omega)
 ·refine RG.pass rfl rfl rfl ?_
  refine RG.pass rfl rfl rfl ?_
  refine RG.pass rfl rfl rfl ?_
  refine RG.pass rfl rfl rfl ?_
  refine RG.pass rfl rfl rfl ?_
  refine RG.pass rfl rfl rfl ?_
  refine RG.pass rfl rfl rfl ?_
  refine RG.vl rfl rfl rfl (Ev.pickF rfl rfl rfl) ?_
  refine RG.vl rfl rfl rfl (Ev.assign rfl rfl) ?_
  refine RG.done ?_
  refine QW.sub (S' := [(6, _)]) ⟨rfl, trivial⟩ ?_
  refine QW.then_ (CW.ret ?_)
  refine QW.ret1 rfl rfl ?_
  have hB := (Ex.tr hB0 hE2)
  refine ⟨congrArg Value.bool ?_, hB⟩; rw [eq_comm]; first | (rw [decide_eq_decide]; unfold Stand; omega) | (rw [decide_eq_false_iff_not]; unfold Stand; omega)

set_option maxRecDepth 100000 in
set_option maxHeartbeats 1000000 in
theorem hletter_ret (s : Su) (b : Br) (w : World)  :
  Ret Tryz.prog 52 [s.v, b.v] w (fun v w' => v = .string ⟨#[letter s b]⟩ ∧ Ex w w') := by
 have hB0 : Ex w w := Ex.rfl_ _
 refine Ret.of Tryz.func52 rfl Tryz.ntmps52 rfl ?_
 refine CW.seq (CW.region ?_)
 refine RG.box rfl rfl rfl rfl rfl (fun g1 w1 eg1 hx1 hb1 => ?_)
 have hE2 := hx1
 refine RG.box rfl rfl rfl rfl rfl (fun g3 w3 eg3 hx3 hb3 => ?_)
 replace hE2 := Ex.tr hE2 hx3
 have hE4 := hx3
 refine RG.vl rfl rfl rfl (Ev.assign rfl rfl) ?_
 refine RG.done (QW.then_ (CW.seq (CW.seq (CW.region ?_))))
 refine RG.vl rfl rfl rfl (Ev.fld rfl rfl fld_37_1) ?_
 refine RG.vl rfl rfl rfl (Ev.ldAt rfl rfl Tryz.underlying3 rfl (hb3.cells) (rfl)) ?_
 refine RG.vl rfl rfl rfl (Ev.fld rfl rfl fld_38_4) ?_
 refine RG.vl rfl rfl rfl (Ev.ldAt rfl rfl Tryz.underlying3 rfl ((hb1.ext hE4).cells) (rfl)) ?_
 refine RG.vl rfl rfl rfl (Ev.gtr rfl rfl rfl) ?_
 refine RG.vl rfl rfl rfl (Ev.move rfl rfl) ?_
 refine RG.split (d := 10) rfl (fun hg5 => ?_) (fun hg5 => ?_)
 ·refine RG.vl rfl rfl rfl (Ev.fld rfl rfl fld_37_1) ?_
  refine RG.vl rfl rfl rfl (Ev.ldAt rfl rfl Tryz.underlying3 rfl (hb3.cells) (rfl)) ?_
  refine RG.vl rfl rfl rfl (Ev.fld rfl rfl fld_38_5) ?_
  refine RG.vl rfl rfl rfl (Ev.ldAt rfl rfl Tryz.underlying3 rfl ((hb1.ext hE4).cells) (rfl)) ?_
  refine RG.vl rfl rfl rfl (Ev.lss rfl rfl rfl) ?_
  refine RG.vl rfl rfl rfl (Ev.pickT rfl rfl rfl) ?_
  refine RG.vl rfl rfl rfl (Ev.move rfl rfl) ?_
  refine RG.split (d := 17) rfl (fun hg6 => ?_) (fun hg6 => ?_)
  ·refine RG.pass rfl rfl rfl ?_
   refine RG.pass rfl rfl rfl ?_
   refine RG.pass rfl rfl rfl ?_
   refine RG.pass rfl rfl rfl ?_
   refine RG.pass rfl rfl rfl ?_
   refine RG.pass rfl rfl rfl ?_
   refine RG.pass rfl rfl rfl ?_
   refine RG.pass rfl rfl rfl ?_
   refine RG.pass rfl rfl rfl ?_
   refine RG.pass rfl rfl rfl ?_
   refine RG.pass rfl rfl rfl ?_
   refine RG.pass rfl rfl rfl ?_
   refine RG.vl rfl rfl rfl (Ev.pickT rfl rfl rfl) ?_
   refine RG.done ?_
   refine QW.sub (S' := [(2, _), (3, _), (4, _), (30, _)]) ⟨rfl, rfl, rfl, rfl, trivial⟩ ?_
   refine QW.then_ ?_
   refine CW.condT rfl ?_
   refine CW.seq (CW.region ?_)
   refine RG.vl rfl rfl rfl (Ev.assign rfl rfl) ?_
   refine RG.done (QW.then_ (CW.ret (QW.thenRet ?_)))
   refine QW.ret1 rfl rfl ?_
   have hB := (Ex.tr hB0 hE2)
   refine ⟨?_, hB⟩; unfold letter; first | (exfalso; omega) | simp [*]
  ·refine RG.vl rfl rfl rfl (Ev.fld rfl rfl fld_37_2) ?_
   refine RG.vl rfl rfl rfl (Ev.ldAt rfl rfl Tryz.underlying3 rfl (hb3.cells) (rfl)) ?_
   refine RG.vl rfl rfl rfl (Ev.fld rfl rfl fld_38_4) ?_
   refine RG.vl rfl rfl rfl (Ev.ldAt rfl rfl Tryz.underlying3 rfl ((hb1.ext hE4).cells) (rfl)) ?_
   refine RG.vl rfl rfl rfl (Ev.gtr rfl rfl rfl) ?_
   refine RG.vl rfl rfl rfl (Ev.move rfl rfl) ?_
   refine RG.split (d := 23) rfl (fun hg7 => ?_) (fun hg7 => ?_)
   ·refine RG.vl rfl rfl rfl (Ev.fld rfl rfl fld_37_2) ?_
    refine RG.vl rfl rfl rfl (Ev.ldAt rfl rfl Tryz.underlying3 rfl (hb3.cells) (rfl)) ?_
    refine RG.vl rfl rfl rfl (Ev.fld rfl rfl fld_38_5) ?_
    refine RG.vl rfl rfl rfl (Ev.ldAt rfl rfl Tryz.underlying3 rfl ((hb1.ext hE4).cells) (rfl)) ?_
    refine RG.vl rfl rfl rfl (Ev.lss rfl rfl rfl) ?_
    refine RG.vl rfl rfl rfl (Ev.pickT rfl rfl rfl) ?_
    refine RG.vl rfl rfl rfl (Ev.pickF rfl rfl rfl) ?_
    refine RG.done ?_
    refine QW.sub (S' := [(2, _), (3, _), (4, _), (30, _)]) ⟨rfl, rfl, rfl, rfl, trivial⟩ ?_
    refine QW.then_ ?_
    refine CW.condP rfl (fun hc8 => ?_) (fun hc8 => ?_)
    ·refine CW.seq (CW.region ?_)
     refine RG.vl rfl rfl rfl (Ev.assign rfl rfl) ?_
     refine RG.done (QW.then_ (CW.ret (QW.thenRet ?_)))
     refine QW.ret1 rfl rfl ?_
     have hB := (Ex.tr hB0 hE2)
     refine ⟨?_, hB⟩; unfold letter; first | (exfalso; omega) | simp [*]
    ·refine CW.skip (QW.then_ (CW.seq (CW.seq (CW.region ?_))))
     refine RG.vl rfl rfl rfl (Ev.fld rfl rfl fld_37_1) ?_
     refine RG.vl rfl rfl rfl (Ev.ldAt rfl rfl Tryz.underlying3 rfl (hb3.cells) (rfl)) ?_
     refine RG.vl rfl rfl rfl (Ev.fld rfl rfl fld_38_5) ?_
     refine RG.vl rfl rfl rfl (Ev.ldAt rfl rfl Tryz.underlying3 rfl ((hb1.ext hE4).cells) (rfl)) ?_
     refine RG.vl rfl rfl rfl (Ev.geq rfl rfl rfl) ?_
     refine RG.vl rfl rfl rfl (Ev.move rfl rfl) ?_
     refine RG.split (d := 36) rfl (fun hg9 => ?_) (fun hg9 => ?_)
     ·refine RG.vl rfl rfl rfl (Ev.fld rfl rfl fld_37_2) ?_
      refine RG.vl rfl rfl rfl (Ev.ldAt rfl rfl Tryz.underlying3 rfl (hb3.cells) (rfl)) ?_
      refine RG.vl rfl rfl rfl (Ev.fld rfl rfl fld_38_5) ?_
      refine RG.vl rfl rfl rfl (Ev.ldAt rfl rfl Tryz.underlying3 rfl ((hb1.ext hE4).cells) (rfl)) ?_
      refine RG.vl rfl rfl rfl (Ev.geq rfl rfl rfl) ?_
      refine RG.vl rfl rfl rfl (Ev.pickT rfl rfl rfl) ?_
      refine RG.done (QW.then_ ?_)
      refine CW.condP rfl (fun hc10 => ?_) (fun hc10 => ?_)
      ·refine CW.seq (CW.region ?_)
       refine RG.vl rfl rfl rfl (Ev.assign rfl rfl) ?_
       refine RG.done (QW.then_ (CW.ret (QW.thenRet ?_)))
       refine QW.ret1 rfl rfl ?_
       have hB := (Ex.tr hB0 hE2)
       refine ⟨?_, hB⟩; unfold letter; first | (exfalso; omega) | simp [*]
      ·refine CW.skip (QW.then_ (CW.seq (CW.seq (CW.region ?_))))
       refine RG.vl rfl rfl rfl (Ev.fld rfl rfl fld_37_1) ?_
       refine RG.vl rfl rfl rfl (Ev.ldAt rfl rfl Tryz.underlying3 rfl (hb3.cells) (rfl)) ?_
       refine RG.vl rfl rfl rfl (Ev.fld rfl rfl fld_38_5) ?_
       refine RG.vl rfl rfl rfl (Ev.ldAt rfl rfl Tryz.underlying3 rfl ((hb1.ext hE4).cells) (rfl)) ?_
       refine RG.vl rfl rfl rfl (Ev.geq rfl rfl rfl) ?_
       refine RG.done ?_
       refine QW.sub (S' := [(2, _), (3, _), (4, _), (47, _)]) ⟨rfl, rfl, rfl, rfl, trivial⟩ ?_
       refine QW.then_ ?_
       refine CW.condP rfl (fun hc11 => ?_) (fun hc11 => ?_)
       ·refine CW.seq (CW.region ?_)
        refine RG.vl rfl rfl rfl (Ev.assign rfl rfl) ?_
        refine RG.done (QW.then_ (CW.ret (QW.thenRet ?_)))
        refine QW.ret1 rfl rfl ?_
        have hB := (Ex.tr hB0 hE2)
        refine ⟨?_, hB⟩; unfold letter; first | (exfalso; omega) | simp [*]
       ·refine CW.skip (QW.then_ (CW.seq (CW.seq (CW.region ?_))))
        refine RG.vl rfl rfl rfl (Ev.fld rfl rfl fld_37_2) ?_
        refine RG.vl rfl rfl rfl (Ev.ldAt rfl rfl Tryz.underlying3 rfl (hb3.cells) (rfl)) ?_
        refine RG.vl rfl rfl rfl (Ev.fld rfl rfl fld_38_5) ?_
        refine RG.vl rfl rfl rfl (Ev.ldAt rfl rfl Tryz.underlying3 rfl ((hb1.ext hE4).cells) (rfl)) ?_
        refine RG.vl rfl rfl rfl (Ev.geq rfl rfl rfl) ?_
        refine RG.done (QW.then_ ?_)
        refine CW.condP rfl (fun hc12 => ?_) (fun hc12 => ?_)
        ·refine CW.seq (CW.region ?_)
         refine RG.vl rfl rfl rfl (Ev.assign rfl rfl) ?_
         refine RG.done (QW.then_ (CW.ret (QW.thenRet ?_)))
         refine QW.ret1 rfl rfl ?_
         have hB := (Ex.tr hB0 hE2)
         refine ⟨?_, hB⟩; unfold letter; first | (exfalso; omega) | simp [*]
        ·refine CW.skip (QW.then_ (CW.seq (CW.region ?_)))
         refine RG.vl rfl rfl rfl (Ev.assign rfl rfl) ?_
         refine RG.done (QW.then_ (CW.ret ?_))
         refine QW.ret1 rfl rfl ?_
         have hB := (Ex.tr hB0 hE2)
         refine ⟨?_, hB⟩; unfold letter; first | (exfalso; omega) | simp [*]
     ·refine RG.pass rfl rfl rfl ?_
      refine RG.pass rfl rfl rfl ?_
      refine RG.pass rfl rfl rfl ?_
      refine RG.pass rfl rfl rfl ?_
      refine RG.pass rfl rfl rfl ?_
      refine RG.vl rfl rfl rfl (Ev.pickF rfl rfl rfl) ?_
      refine RG.done (QW.then_ ?_)
      refine CW.condF rfl ?_
      refine CW.skip (QW.then_ (CW.seq (CW.seq (CW.region ?_))))
      refine RG.vl rfl rfl rfl (Ev.fld rfl rfl fld_37_1) ?_
      refine RG.vl rfl rfl rfl (Ev.ldAt rfl rfl Tryz.underlying3 rfl (hb3.cells) (rfl)) ?_
      refine RG.vl rfl rfl rfl (Ev.fld rfl rfl fld_38_5) ?_
      refine RG.vl rfl rfl rfl (Ev.ldAt rfl rfl Tryz.underlying3 rfl ((hb1.ext hE4).cells) (rfl)) ?_
      refine RG.vl rfl rfl rfl (Ev.geq rfl rfl rfl) ?_
      refine RG.done ?_
      refine QW.sub (S' := [(2, _), (3, _), (4, _), (47, _)]) ⟨rfl, rfl, rfl, rfl, trivial⟩ ?_
      refine QW.then_ ?_
      refine CW.condP rfl (fun hc13 => ?_) (fun hc13 => ?_)
      ·refine CW.seq (CW.region ?_)
       refine RG.vl rfl rfl rfl (Ev.assign rfl rfl) ?_
       refine RG.done (QW.then_ (CW.ret (QW.thenRet ?_)))
       refine QW.ret1 rfl rfl ?_
       have hB := (Ex.tr hB0 hE2)
       refine ⟨?_, hB⟩; unfold letter; first | (exfalso; omega) | simp [*]
      ·refine CW.skip (QW.then_ (CW.seq (CW.seq (CW.region ?_))))
       refine RG.vl rfl rfl rfl (Ev.fld rfl rfl fld_37_2) ?_
       refine RG.vl rfl rfl rfl (Ev.ldAt rfl rfl Tryz.underlying3 rfl (hb3.cells) (rfl)) ?_
       refine RG.vl rfl rfl rfl (Ev.fld rfl rfl fld_38_5) ?_
       refine RG.vl rfl rfl rfl (Ev.ldAt rfl rfl Tryz.underlying3 rfl ((hb1.ext hE4).cells) (rfl)) ?_
       refine RG.vl rfl rfl rfl (Ev.geq rfl rfl rfl) ?_
       refine RG.done (QW.then_ ?_)
       refine CW.condP rfl (fun hc14 => ?_) (fun hc14 => ?_)
       ·refine CW.seq (CW.region ?_)
        refine RG.vl rfl rfl rfl (Ev.assign rfl rfl) ?_
        refine RG.done (QW.then_ (CW.ret (QW.thenRet ?_)))
        refine QW.ret1 rfl rfl ?_
        have hB := (Ex.tr hB0 hE2)
        refine ⟨?_, hB⟩; unfold letter; first | (exfalso; omega) | simp [*]
       ·refine CW.skip (QW.then_ (CW.seq (CW.region ?_)))
        refine RG.vl rfl rfl rfl (Ev.assign rfl rfl) ?_
        refine RG.done (QW.then_ (CW.ret ?_))
        refine QW.ret1 rfl rfl ?_
        have hB := (Ex.tr hB0 hE2)
        refine ⟨?_, hB⟩; unfold letter; first | (exfalso; omega) | simp [*]
   ·refine RG.pass rfl rfl rfl ?_
    refine RG.pass rfl rfl rfl ?_
    refine RG.pass rfl rfl rfl ?_
    refine RG.pass rfl rfl rfl ?_
    refine RG.pass rfl rfl rfl ?_
    refine RG.vl rfl rfl rfl (Ev.pickF rfl rfl rfl) ?_
    refine RG.vl rfl rfl rfl (Ev.pickF rfl rfl rfl) ?_
    refine RG.done ?_
    refine QW.sub (S' := [(2, _), (3, _), (4, _), (30, _)]) ⟨rfl, rfl, rfl, rfl, trivial⟩ ?_
    refine QW.then_ ?_
    refine CW.condF rfl ?_
    refine CW.skip (QW.then_ (CW.seq (CW.seq (CW.region ?_))))
    refine RG.vl rfl rfl rfl (Ev.fld rfl rfl fld_37_1) ?_
    refine RG.vl rfl rfl rfl (Ev.ldAt rfl rfl Tryz.underlying3 rfl (hb3.cells) (rfl)) ?_
    refine RG.vl rfl rfl rfl (Ev.fld rfl rfl fld_38_5) ?_
    refine RG.vl rfl rfl rfl (Ev.ldAt rfl rfl Tryz.underlying3 rfl ((hb1.ext hE4).cells) (rfl)) ?_
    refine RG.vl rfl rfl rfl (Ev.geq rfl rfl rfl) ?_
    refine RG.vl rfl rfl rfl (Ev.move rfl rfl) ?_
    refine RG.split (d := 36) rfl (fun hg15 => ?_) (fun hg15 => ?_)
    ·refine RG.vl rfl rfl rfl (Ev.fld rfl rfl fld_37_2) ?_
     refine RG.vl rfl rfl rfl (Ev.ldAt rfl rfl Tryz.underlying3 rfl (hb3.cells) (rfl)) ?_
     refine RG.vl rfl rfl rfl (Ev.fld rfl rfl fld_38_5) ?_
     refine RG.vl rfl rfl rfl (Ev.ldAt rfl rfl Tryz.underlying3 rfl ((hb1.ext hE4).cells) (rfl)) ?_
     refine RG.vl rfl rfl rfl (Ev.geq rfl rfl rfl) ?_
     refine RG.vl rfl rfl rfl (Ev.pickT rfl rfl rfl) ?_
     refine RG.done (QW.then_ ?_)
     refine CW.condP rfl (fun hc16 => ?_) (fun hc16 => ?_)
     ·refine CW.seq (CW.region ?_)
      refine RG.vl rfl rfl rfl (Ev.assign rfl rfl) ?_
      refine RG.done (QW.then_ (CW.ret (QW.thenRet ?_)))
      refine QW.ret1 rfl rfl ?_
      have hB := (Ex.tr hB0 hE2)
      refine ⟨?_, hB⟩; unfold letter; first | (exfalso; omega) | simp [*]
     ·refine CW.skip (QW.then_ (CW.seq (CW.seq (CW.region ?_))))
      refine RG.vl rfl rfl rfl (Ev.fld rfl rfl fld_37_1) ?_
      refine RG.vl rfl rfl rfl (Ev.ldAt rfl rfl Tryz.underlying3 rfl (hb3.cells) (rfl)) ?_
      refine RG.vl rfl rfl rfl (Ev.fld rfl rfl fld_38_5) ?_
      refine RG.vl rfl rfl rfl (Ev.ldAt rfl rfl Tryz.underlying3 rfl ((hb1.ext hE4).cells) (rfl)) ?_
      refine RG.vl rfl rfl rfl (Ev.geq rfl rfl rfl) ?_
      refine RG.done ?_
      refine QW.sub (S' := [(2, _), (3, _), (4, _), (47, _)]) ⟨rfl, rfl, rfl, rfl, trivial⟩ ?_
      refine QW.then_ ?_
      refine CW.condP rfl (fun hc17 => ?_) (fun hc17 => ?_)
      ·refine CW.seq (CW.region ?_)
       refine RG.vl rfl rfl rfl (Ev.assign rfl rfl) ?_
       refine RG.done (QW.then_ (CW.ret (QW.thenRet ?_)))
       refine QW.ret1 rfl rfl ?_
       have hB := (Ex.tr hB0 hE2)
       refine ⟨?_, hB⟩; unfold letter; first | (exfalso; omega) | simp [*]
      ·refine CW.skip (QW.then_ (CW.seq (CW.seq (CW.region ?_))))
       refine RG.vl rfl rfl rfl (Ev.fld rfl rfl fld_37_2) ?_
       refine RG.vl rfl rfl rfl (Ev.ldAt rfl rfl Tryz.underlying3 rfl (hb3.cells) (rfl)) ?_
       refine RG.vl rfl rfl rfl (Ev.fld rfl rfl fld_38_5) ?_
       refine RG.vl rfl rfl rfl (Ev.ldAt rfl rfl Tryz.underlying3 rfl ((hb1.ext hE4).cells) (rfl)) ?_
       refine RG.vl rfl rfl rfl (Ev.geq rfl rfl rfl) ?_
       refine RG.done (QW.then_ ?_)
       refine CW.condP rfl (fun hc18 => ?_) (fun hc18 => ?_)
       ·refine CW.seq (CW.region ?_)
        refine RG.vl rfl rfl rfl (Ev.assign rfl rfl) ?_
        refine RG.done (QW.then_ (CW.ret (QW.thenRet ?_)))
        refine QW.ret1 rfl rfl ?_
        have hB := (Ex.tr hB0 hE2)
        refine ⟨?_, hB⟩; unfold letter; first | (exfalso; omega) | simp [*]
       ·refine CW.skip (QW.then_ (CW.seq (CW.region ?_)))
        refine RG.vl rfl rfl rfl (Ev.assign rfl rfl) ?_
        refine RG.done (QW.then_ (CW.ret ?_))
        refine QW.ret1 rfl rfl ?_
        have hB := (Ex.tr hB0 hE2)
        refine ⟨?_, hB⟩; unfold letter; first | (exfalso; omega) | simp [*]
    ·refine RG.pass rfl rfl rfl ?_
     refine RG.pass rfl rfl rfl ?_
     refine RG.pass rfl rfl rfl ?_
     refine RG.pass rfl rfl rfl ?_
     refine RG.pass rfl rfl rfl ?_
     refine RG.vl rfl rfl rfl (Ev.pickF rfl rfl rfl) ?_
     refine RG.done (QW.then_ ?_)
     refine CW.condF rfl ?_
     refine CW.skip (QW.then_ (CW.seq (CW.seq (CW.region ?_))))
     refine RG.vl rfl rfl rfl (Ev.fld rfl rfl fld_37_1) ?_
     refine RG.vl rfl rfl rfl (Ev.ldAt rfl rfl Tryz.underlying3 rfl (hb3.cells) (rfl)) ?_
     refine RG.vl rfl rfl rfl (Ev.fld rfl rfl fld_38_5) ?_
     refine RG.vl rfl rfl rfl (Ev.ldAt rfl rfl Tryz.underlying3 rfl ((hb1.ext hE4).cells) (rfl)) ?_
     refine RG.vl rfl rfl rfl (Ev.geq rfl rfl rfl) ?_
     refine RG.done ?_
     refine QW.sub (S' := [(2, _), (3, _), (4, _), (47, _)]) ⟨rfl, rfl, rfl, rfl, trivial⟩ ?_
     refine QW.then_ ?_
     refine CW.condP rfl (fun hc19 => ?_) (fun hc19 => ?_)
     ·refine CW.seq (CW.region ?_)
      refine RG.vl rfl rfl rfl (Ev.assign rfl rfl) ?_
      refine RG.done (QW.then_ (CW.ret (QW.thenRet ?_)))
      refine QW.ret1 rfl rfl ?_
      have hB := (Ex.tr hB0 hE2)
      refine ⟨?_, hB⟩; unfold letter; first | (exfalso; omega) | simp [*]
     ·refine CW.skip (QW.then_ (CW.seq (CW.seq (CW.region ?_))))
      refine RG.vl rfl rfl rfl (Ev.fld rfl rfl fld_37_2) ?_
      refine RG.vl rfl rfl rfl (Ev.ldAt rfl rfl Tryz.underlying3 rfl (hb3.cells) (rfl)) ?_
      refine RG.vl rfl rfl rfl (Ev.fld rfl rfl fld_38_5) ?_
      refine RG.vl rfl rfl rfl (Ev.ldAt rfl rfl Tryz.underlying3 rfl ((hb1.ext hE4).cells) (rfl)) ?_
      refine RG.vl rfl rfl rfl (Ev.geq rfl rfl rfl) ?_
      refine RG.done (QW.then_ ?_)
      refine CW.condP rfl (fun hc20 => ?_) (fun hc20 => ?_)
      ·refine CW.seq (CW.region ?_)
       refine RG.vl rfl rfl rfl (Ev.assign rfl rfl) ?_
       refine RG.done (QW.then_ (CW.ret (QW.thenRet ?_)))
       refine QW.ret1 rfl rfl ?_
       have hB := (Ex.tr hB0 hE2)
       refine ⟨?_, hB⟩; unfold letter; first | (exfalso; omega) | simp [*]
      ·refine CW.skip (QW.then_ (CW.seq (CW.region ?_)))
       refine RG.vl rfl rfl rfl (Ev.assign rfl rfl) ?_
       refine RG.done (QW.then_ (CW.ret ?_))
       refine QW.ret1 rfl rfl ?_
       have hB := (Ex.tr hB0 hE2)
       refine ⟨?_, hB⟩; unfold letter; first | (exfalso; omega) | simp [*]
 ·refine RG.pass rfl rfl rfl ?_
  refine RG.pass rfl rfl rfl ?_
  refine RG.pass rfl rfl rfl ?_
  refine RG.pass rfl rfl rfl ?_
  refine RG.pass rfl rfl rfl ?_
  refine RG.vl rfl rfl rfl (Ev.pickF rfl rfl rfl) ?_
  refine RG.vl rfl rfl rfl (Ev.move rfl rfl) ?_
  refine RG.vl rfl rfl rfl (Ev.fld rfl rfl fld_37_2) ?_
  refine RG.vl rfl rfl rfl (Ev.ldAt rfl rfl Tryz.underlying3 rfl (hb3.cells) (rfl)) ?_
  refine RG.vl rfl rfl rfl (Ev.fld rfl rfl fld_38_4) ?_
  refine RG.vl rfl rfl rfl (Ev.ldAt rfl rfl Tryz.underlying3 rfl ((hb1.ext hE4).cells) (rfl)) ?_
  refine RG.vl rfl rfl rfl (Ev.gtr rfl rfl rfl) ?_
  refine RG.vl rfl rfl rfl (Ev.move rfl rfl) ?_
  refine RG.split (d := 23) rfl (fun hg21 => ?_) (fun hg21 => ?_)
  ·refine RG.vl rfl rfl rfl (Ev.fld rfl rfl fld_37_2) ?_
   refine RG.vl rfl rfl rfl (Ev.ldAt rfl rfl Tryz.underlying3 rfl (hb3.cells) (rfl)) ?_
   refine RG.vl rfl rfl rfl (Ev.fld rfl rfl fld_38_5) ?_
   refine RG.vl rfl rfl rfl (Ev.ldAt rfl rfl Tryz.underlying3 rfl ((hb1.ext hE4).cells) (rfl)) ?_
   refine RG.vl rfl rfl rfl (Ev.lss rfl rfl rfl) ?_
   refine RG.vl rfl rfl rfl (Ev.pickT rfl rfl rfl) ?_
   refine RG.vl rfl rfl rfl (Ev.pickF rfl rfl rfl) ?_
   refine RG.done ?_
   refine QW.sub (S' := [(2, _), (3, _), (4, _), (30, _)]) ⟨rfl, rfl, rfl, rfl, trivial⟩ ?_
   refine QW.then_ ?_
   refine CW.condP rfl (fun hc22 => ?_) (fun hc22 => ?_)
   ·refine CW.seq (CW.region ?_)
    refine RG.vl rfl rfl rfl (Ev.assign rfl rfl) ?_
    refine RG.done (QW.then_ (CW.ret (QW.thenRet ?_)))
    refine QW.ret1 rfl rfl ?_
    have hB := (Ex.tr hB0 hE2)
    refine ⟨?_, hB⟩; unfold letter; first | (exfalso; omega) | simp [*]
   ·refine CW.skip (QW.then_ (CW.seq (CW.seq (CW.region ?_))))
    refine RG.vl rfl rfl rfl (Ev.fld rfl rfl fld_37_1) ?_
    refine RG.vl rfl rfl rfl (Ev.ldAt rfl rfl Tryz.underlying3 rfl (hb3.cells) (rfl)) ?_
    refine RG.vl rfl rfl rfl (Ev.fld rfl rfl fld_38_5) ?_
    refine RG.vl rfl rfl rfl (Ev.ldAt rfl rfl Tryz.underlying3 rfl ((hb1.ext hE4).cells) (rfl)) ?_
    refine RG.vl rfl rfl rfl (Ev.geq rfl rfl rfl) ?_
    refine RG.vl rfl rfl rfl (Ev.move rfl rfl) ?_
    refine RG.split (d := 36) rfl (fun hg23 => ?_) (fun hg23 => ?_)
    ·refine RG.vl rfl rfl rfl (Ev.fld rfl rfl fld_37_2) ?_
     refine RG.vl rfl rfl rfl (Ev.ldAt rfl rfl Tryz.underlying3 rfl (hb3.cells) (rfl)) ?_
     refine RG.vl rfl rfl rfl (Ev.fld rfl rfl fld_38_5) ?_
     refine RG.vl rfl rfl rfl (Ev.ldAt rfl rfl Tryz.underlying3 rfl ((hb1.ext hE4).cells) (rfl)) ?_
     refine RG.vl rfl rfl rfl (Ev.geq rfl rfl rfl) ?_
     refine RG.vl rfl rfl rfl (Ev.pickT rfl rfl rfl) ?_
     refine RG.done (QW.then_ ?_)
     refine CW.condP rfl (fun hc24 => ?_) (fun hc24 => ?_)
     ·refine CW.seq (CW.region ?_)
      refine RG.vl rfl rfl rfl (Ev.assign rfl rfl) ?_
      refine RG.done (QW.then_ (CW.ret (QW.thenRet ?_)))
      refine QW.ret1 rfl rfl ?_
      have hB := (Ex.tr hB0 hE2)
      refine ⟨?_, hB⟩; unfold letter; first | (exfalso; omega) | simp [*]
     ·refine CW.skip (QW.then_ (CW.seq (CW.seq (CW.region ?_))))
      refine RG.vl rfl rfl rfl (Ev.fld rfl rfl fld_37_1) ?_
      refine RG.vl rfl rfl rfl (Ev.ldAt rfl rfl Tryz.underlying3 rfl (hb3.cells) (rfl)) ?_
      refine RG.vl rfl rfl rfl (Ev.fld rfl rfl fld_38_5) ?_
      refine RG.vl rfl rfl rfl (Ev.ldAt rfl rfl Tryz.underlying3 rfl ((hb1.ext hE4).cells) (rfl)) ?_
      refine RG.vl rfl rfl rfl (Ev.geq rfl rfl rfl) ?_
      refine RG.done ?_
      refine QW.sub (S' := [(2, _), (3, _), (4, _), (47, _)]) ⟨rfl, rfl, rfl, rfl, trivial⟩ ?_
      refine QW.then_ ?_
      refine CW.condP rfl (fun hc25 => ?_) (fun hc25 => ?_)
      ·refine CW.seq (CW.region ?_)
       refine RG.vl rfl rfl rfl (Ev.assign rfl rfl) ?_
       refine RG.done (QW.then_ (CW.ret (QW.thenRet ?_)))
       refine QW.ret1 rfl rfl ?_
       have hB := (Ex.tr hB0 hE2)
       refine ⟨?_, hB⟩; unfold letter; first | (exfalso; omega) | simp [*]
      ·refine CW.skip (QW.then_ (CW.seq (CW.seq (CW.region ?_))))
       refine RG.vl rfl rfl rfl (Ev.fld rfl rfl fld_37_2) ?_
       refine RG.vl rfl rfl rfl (Ev.ldAt rfl rfl Tryz.underlying3 rfl (hb3.cells) (rfl)) ?_
       refine RG.vl rfl rfl rfl (Ev.fld rfl rfl fld_38_5) ?_
       refine RG.vl rfl rfl rfl (Ev.ldAt rfl rfl Tryz.underlying3 rfl ((hb1.ext hE4).cells) (rfl)) ?_
       refine RG.vl rfl rfl rfl (Ev.geq rfl rfl rfl) ?_
       refine RG.done (QW.then_ ?_)
       refine CW.condP rfl (fun hc26 => ?_) (fun hc26 => ?_)
       ·refine CW.seq (CW.region ?_)
        refine RG.vl rfl rfl rfl (Ev.assign rfl rfl) ?_
        refine RG.done (QW.then_ (CW.ret (QW.thenRet ?_)))
        refine QW.ret1 rfl rfl ?_
        have hB := (Ex.tr hB0 hE2)
        refine ⟨?_, hB⟩; unfold letter; first | (exfalso; omega) | simp [*]
       ·refine CW.skip (QW.then_ (CW.seq (CW.region ?_)))
        refine RG.vl rfl rfl rfl (Ev.assign rfl rfl) ?_
        refine RG.done (QW.then_ (CW.ret ?_))
        refine QW.ret1 rfl rfl ?_
        have hB := (Ex.tr hB0 hE2)
        refine ⟨?_, hB⟩; unfold letter; first | (exfalso; omega) | simp [*]
    ·refine RG.pass rfl rfl rfl ?_
     refine RG.pass rfl rfl rfl ?_
     refine RG.pass rfl rfl rfl ?_
     refine RG.pass rfl rfl rfl ?_
     refine RG.pass rfl rfl rfl ?_
     refine RG.vl rfl rfl rfl (Ev.pickF rfl rfl rfl) ?_
     refine RG.done (QW.then_ ?_)
     refine CW.condF rfl ?_
     refine CW.skip (QW.then_ (CW.seq (CW.seq (CW.region ?_))))
     refine RG.vl rfl rfl rfl (Ev.fld rfl rfl fld_37_1) ?_
     refine RG.vl rfl rfl rfl (Ev.ldAt rfl rfl Tryz.underlying3 rfl (hb3.cells) (rfl)) ?_
     refine RG.vl rfl rfl rfl (Ev.fld rfl rfl fld_38_5) ?_
     refine RG.vl rfl rfl rfl (Ev.ldAt rfl rfl Tryz.underlying3 rfl ((hb1.ext hE4).cells) (rfl)) ?_
     refine RG.vl rfl rfl rfl (Ev.geq rfl rfl rfl) ?_
     refine RG.done ?_
     refine QW.sub (S' := [(2, _), (3, _), (4, _), (47, _)]) ⟨rfl, rfl, rfl, rfl, trivial⟩ ?_
     refine QW.then_ ?_
     refine CW.condP rfl (fun hc27 => ?_) (fun hc27 => ?_)
     ·refine CW.seq (CW.region ?_)
      refine RG.vl rfl rfl rfl (Ev.assign rfl rfl) ?_
      refine RG.done (QW.then_ (CW.ret (QW.thenRet ?_)))
      refine QW.ret1 rfl rfl ?_
      have hB := (Ex.tr hB0 hE2)
      refine ⟨?_, hB⟩; unfold letter; first | (exfalso; omega) | simp [*]
     ·refine CW.skip (QW.then_ (CW.seq (CW.seq (CW.region ?_))))
      refine RG.vl rfl rfl rfl (Ev.fld rfl rfl fld_37_2) ?_
      refine RG.vl rfl rfl rfl (Ev.ldAt rfl rfl Tryz.underlying3 rfl (hb3.cells) (rfl)) ?_
      refine RG.vl rfl rfl rfl (Ev.fld rfl rfl fld_38_5) ?_
      refine RG.vl rfl rfl rfl (Ev.ldAt rfl rfl Tryz.underlying3 rfl ((hb1.ext hE4).cells) (rfl)) ?_
      refine RG.vl rfl rfl rfl (Ev.geq rfl rfl rfl) ?_
      refine RG.done (QW.then_ ?_)
      refine CW.condP rfl (fun hc28 => ?_) (fun hc28 => ?_)
      ·refine CW.seq (CW.region ?_)
       refine RG.vl rfl rfl rfl (Ev.assign rfl rfl) ?_
       refine RG.done (QW.then_ (CW.ret (QW.thenRet ?_)))
       refine QW.ret1 rfl rfl ?_
       have hB := (Ex.tr hB0 hE2)
       refine ⟨?_, hB⟩; unfold letter; first | (exfalso; omega) | simp [*]
      ·refine CW.skip (QW.then_ (CW.seq (CW.region ?_)))
       refine RG.vl rfl rfl rfl (Ev.assign rfl rfl) ?_
       refine RG.done (QW.then_ (CW.ret ?_))
       refine QW.ret1 rfl rfl ?_
       have hB := (Ex.tr hB0 hE2)
       refine ⟨?_, hB⟩; unfold letter; first | (exfalso; omega) | simp [*]
  ·refine RG.pass rfl rfl rfl ?_
   refine RG.pass rfl rfl rfl ?_
   refine RG.pass rfl rfl rfl ?_
   refine RG.pass rfl rfl rfl ?_
   refine RG.pass rfl rfl rfl ?_
   refine RG.vl rfl rfl rfl (Ev.pickF rfl rfl rfl) ?_
   refine RG.vl rfl rfl rfl (Ev.pickF rfl rfl rfl) ?_
   refine RG.done ?_
   refine QW.sub (S' := [(2, _), (3, _), (4, _), (30, _)]) ⟨rfl, rfl, rfl, rfl, trivial⟩ ?_
   refine QW.then_ ?_
   refine CW.condF rfl ?_
   refine CW.skip (QW.then_ (CW.seq (CW.seq (CW.region ?_))))
   refine RG.vl rfl rfl rfl (Ev.fld rfl rfl fld_37_1) ?_
   refine RG.vl rfl rfl rfl (Ev.ldAt rfl rfl Tryz.underlying3 rfl (hb3.cells) (rfl)) ?_
   refine RG.vl rfl rfl rfl (Ev.fld rfl rfl fld_38_5) ?_
   refine RG.vl rfl rfl rfl (Ev.ldAt rfl rfl Tryz.underlying3 rfl ((hb1.ext hE4).cells) (rfl)) ?_
   refine RG.vl rfl rfl rfl (Ev.geq rfl rfl rfl) ?_
   refine RG.vl rfl rfl rfl (Ev.move rfl rfl) ?_
   refine RG.split (d := 36) rfl (fun hg29 => ?_) (fun hg29 => ?_)
   ·refine RG.vl rfl rfl rfl (Ev.fld rfl rfl fld_37_2) ?_
    refine RG.vl rfl rfl rfl (Ev.ldAt rfl rfl Tryz.underlying3 rfl (hb3.cells) (rfl)) ?_
    refine RG.vl rfl rfl rfl (Ev.fld rfl rfl fld_38_5) ?_
    refine RG.vl rfl rfl rfl (Ev.ldAt rfl rfl Tryz.underlying3 rfl ((hb1.ext hE4).cells) (rfl)) ?_
    refine RG.vl rfl rfl rfl (Ev.geq rfl rfl rfl) ?_
    refine RG.vl rfl rfl rfl (Ev.pickT rfl rfl rfl) ?_
    refine RG.done (QW.then_ ?_)
    refine CW.condP rfl (fun hc30 => ?_) (fun hc30 => ?_)
    ·refine CW.seq (CW.region ?_)
     refine RG.vl rfl rfl rfl (Ev.assign rfl rfl) ?_
     refine RG.done (QW.then_ (CW.ret (QW.thenRet ?_)))
     refine QW.ret1 rfl rfl ?_
     have hB := (Ex.tr hB0 hE2)
     refine ⟨?_, hB⟩; unfold letter; first | (exfalso; omega) | simp [*]
    ·refine CW.skip (QW.then_ (CW.seq (CW.seq (CW.region ?_))))
     refine RG.vl rfl rfl rfl (Ev.fld rfl rfl fld_37_1) ?_
     refine RG.vl rfl rfl rfl (Ev.ldAt rfl rfl Tryz.underlying3 rfl (hb3.cells) (rfl)) ?_
     refine RG.vl rfl rfl rfl (Ev.fld rfl rfl fld_38_5) ?_
     refine RG.vl rfl rfl rfl (Ev.ldAt rfl rfl Tryz.underlying3 rfl ((hb1.ext hE4).cells) (rfl)) ?_
     refine RG.vl rfl rfl rfl (Ev.geq rfl rfl rfl) ?_
     refine RG.done ?_
     refine QW.sub (S' := [(2, _), (3, _), (4, _), (47, _)]) ⟨rfl, rfl, rfl, rfl, trivial⟩ ?_
     refine QW.then_ ?_
     refine CW.condP rfl (fun hc31 => ?_) (fun hc31 => ?_)
     ·refine CW.seq (CW.region ?_)
      refine RG.vl rfl rfl rfl (Ev.assign rfl rfl) ?_
      refine RG.done (QW.then_ (CW.ret (QW.thenRet ?_)))
      refine QW.ret1 rfl rfl ?_
      have hB := (Ex.tr hB0 hE2)
      refine ⟨?_, hB⟩; unfold letter; first | (exfalso; omega) | simp [*]
     ·refine CW.skip (QW.then_ (CW.seq (CW.seq (CW.region ?_))))
      refine RG.vl rfl rfl rfl (Ev.fld rfl rfl fld_37_2) ?_
      refine RG.vl rfl rfl rfl (Ev.ldAt rfl rfl Tryz.underlying3 rfl (hb3.cells) (rfl)) ?_
      refine RG.vl rfl rfl rfl (Ev.fld rfl rfl fld_38_5) ?_
      refine RG.vl rfl rfl rfl (Ev.ldAt rfl rfl Tryz.underlying3 rfl ((hb1.ext hE4).cells) (rfl)) ?_
      refine RG.vl rfl rfl rfl (Ev.geq rfl rfl rfl) ?_
      refine RG.done (QW.then_ ?_)
      refine CW.condP rfl (fun hc32 => ?_) (fun hc32 => ?_)
      ·refine CW.seq (CW.region ?_)
       refine RG.vl rfl rfl rfl (Ev.assign rfl rfl) ?_
       refine RG.done (QW.then_ (CW.ret (QW.thenRet ?_)))
       refine QW.ret1 rfl rfl ?_
       have hB := (Ex.tr hB0 hE2)
       refine ⟨?_, hB⟩; unfold letter; first | (exfalso; omega) | simp [*]
      ·refine CW.skip (QW.then_ (CW.seq (CW.region ?_)))
       refine RG.vl rfl rfl rfl (Ev.assign rfl rfl) ?_
       refine RG.done (QW.then_ (CW.ret ?_))
       refine QW.ret1 rfl rfl ?_
       have hB := (Ex.tr hB0 hE2)
       refine ⟨?_, hB⟩; unfold letter; first | (exfalso; omega) | simp [*]
   ·refine RG.pass rfl rfl rfl ?_
    refine RG.pass rfl rfl rfl ?_
    refine RG.pass rfl rfl rfl ?_
    refine RG.pass rfl rfl rfl ?_
    refine RG.pass rfl rfl rfl ?_
    refine RG.vl rfl rfl rfl (Ev.pickF rfl rfl rfl) ?_
    refine RG.done (QW.then_ ?_)
    refine CW.condF rfl ?_
    refine CW.skip (QW.then_ (CW.seq (CW.seq (CW.region ?_))))
    refine RG.vl rfl rfl rfl (Ev.fld rfl rfl fld_37_1) ?_
    refine RG.vl rfl rfl rfl (Ev.ldAt rfl rfl Tryz.underlying3 rfl (hb3.cells) (rfl)) ?_
    refine RG.vl rfl rfl rfl (Ev.fld rfl rfl fld_38_5) ?_
    refine RG.vl rfl rfl rfl (Ev.ldAt rfl rfl Tryz.underlying3 rfl ((hb1.ext hE4).cells) (rfl)) ?_
    refine RG.vl rfl rfl rfl (Ev.geq rfl rfl rfl) ?_
    refine RG.done ?_
    refine QW.sub (S' := [(2, _), (3, _), (4, _), (47, _)]) ⟨rfl, rfl, rfl, rfl, trivial⟩ ?_
    refine QW.then_ ?_
    refine CW.condP rfl (fun hc33 => ?_) (fun hc33 => ?_)
    ·refine CW.seq (CW.region ?_)
     refine RG.vl rfl rfl rfl (Ev.assign rfl rfl) ?_
     refine RG.done (QW.then_ (CW.ret (QW.thenRet ?_)))
     refine QW.ret1 rfl rfl ?_
     have hB := (Ex.tr hB0 hE2)
     refine ⟨?_, hB⟩; unfold letter; first | (exfalso; omega) | simp [*]
    ·refine CW.skip (QW.then_ (CW.seq (CW.seq (CW.region ?_))))
     refine RG.vl rfl rfl rfl (Ev.fld rfl rfl fld_37_2) ?_
     refine RG.vl rfl rfl rfl (Ev.ldAt rfl rfl Tryz.underlying3 rfl (hb3.cells) (rfl)) ?_
     refine RG.vl rfl rfl rfl (Ev.fld rfl rfl fld_38_5) ?_
     refine RG.vl rfl rfl rfl (Ev.ldAt rfl rfl Tryz.underlying3 rfl ((hb1.ext hE4).cells) (rfl)) ?_
     refine RG.vl rfl rfl rfl (Ev.geq rfl rfl rfl) ?_
     refine RG.done (QW.then_ ?_)
     refine CW.condP rfl (fun hc34 => ?_) (fun hc34 => ?_)
     ·refine CW.seq (CW.region ?_)
      refine RG.vl rfl rfl rfl (Ev.assign rfl rfl) ?_
      refine RG.done (QW.then_ (CW.ret (QW.thenRet ?_)))
      refine QW.ret1 rfl rfl ?_
      have hB := (Ex.tr hB0 hE2)
      refine ⟨?_, hB⟩; unfold letter; first | (exfalso; omega) | simp [*]
     ·refine CW.skip (QW.then_ (CW.seq (CW.region ?_)))
      refine RG.vl rfl rfl rfl (Ev.assign rfl rfl) ?_
      refine RG.done (QW.then_ (CW.ret ?_))
      refine QW.ret1 rfl rfl ?_
      have hB := (Ex.tr hB0 hE2)
      refine ⟨?_, hB⟩; unfold letter; first | (exfalso; omega) | simp [*]

set_option maxRecDepth 100000 in
set_option maxHeartbeats 1000000 in
theorem herror_ret (s : Su) (v : Value) (l : List Br) (w : World) (hl : RdL w 3 Br.c v l) (hlen : l.length ≤ 1000) :
  Ret Tryz.prog 50 [s.v, v] w (fun v w' => v = .int .i64 (errOf s l) ∧ Ex w w') := by
 have hB0 : Ex w w := Ex.rfl_ _
 refine Ret.of Tryz.func50 rfl Tryz.ntmps50 rfl ?_
 refine CW.seq (CW.region ?_)
 refine RG.box rfl rfl rfl rfl rfl (fun g1 w1 eg1 hx1 hb1 => ?_)
 have hE2 := hx1
 refine RG.vl rfl rfl rfl (Ev.assign rfl rfl) ?_
 refine RG.done (QW.then_ (CW.seq (CW.seq (CW.region ?_))))
 refine RG.vl rfl rfl rfl (Ev.move rfl rfl) ?_
 refine RG.vl rfl rfl rfl (Ev.lenL rfl rfl rfl Tryz.underlying34 ((hl.ext hE2))) ?_
 refine RG.vl rfl rfl rfl (Ev.gtr rfl rfl rfl) ?_
 refine RG.done (QW.then_ ?_)
 refine CW.condP rfl (fun hc3 => ?_) (fun hc3 => ?_)
 ·refine CW.seq (CW.region ?_)
  refine RG.vl rfl rfl rfl (Ev.assign rfl rfl) ?_
  refine RG.done (QW.then_ (CW.ret (QW.thenRet ?_)))
  refine QW.ret1 rfl rfl ?_
  have hB := (Ex.tr hB0 hE2)
  exact ⟨by unfold errOf; rw [if_pos (by omega)], hB⟩
 ·refine CW.skip (QW.then_ (CW.seq (CW.seq (CW.region ?_))))
  refine RG.vl rfl rfl rfl (Ev.ldAgg rfl rfl Tryz.underlying38 rfl sz_38 rfl (hb1.cells)) ?_
  refine RG.call rfl rfl rfl rfl rfl rfl rfl en_24 (rright_ret _ _) ?_
  rintro _ w4 ⟨rfl, hx4⟩
  replace hE2 := Ex.tr hE2 hx4
  have hE5 := hx4
  refine RG.vl rfl rfl rfl (Ev.notP rfl rfl) ?_
  refine RG.done (QW.then_ ?_)
  refine CW.condP rfl (fun hc6 => ?_) (fun hc6 => ?_)
  ·refine CW.seq ?_
   have hs : ¬ Okay s := by assumption
   refine CW.region ?_
   refine RG.vl rfl rfl rfl (Ev.assign rfl rfl) ?_
   refine RG.done (QW.then_ (CW.ret (QW.thenRet ?_)))
   refine QW.ret1 rfl rfl ?_
   have hB := (Ex.tr hB0 hE2)
   exact ⟨by unfold errOf; rw [if_neg (by omega), if_pos hs], hB⟩
  ·refine CW.skip (QW.then_ (CW.seq (CW.seq ?_)))
   have hs : Okay s := by simpa using (by assumption : ¬ ¬ Okay s)
   have hpl := hs.1
   have hpl2 := hs.2.1
   refine CW.region ?_
   refine RG.vl rfl rfl rfl (Ev.assign rfl rfl) ?_
   refine RG.done (QW.then_ (CW.block ?_))
   replace hl := (hl.ext hE2)
   replace hb1 := (hb1.ext hE5)
   have hR7 := (Ex.tr hB0 hE2)
   have hR8 := hE5
   refine CW.loop1 [(1, _), (2, _)] ⟨rfl, rfl, trivial⟩ (fun (i : Nat) => [(5, .int .i64 i)]) (fun i w' => (i ≤ l.length ∧ ∀ j b, j < i → l[j]? = some b → InB b) ∧ Ex w4 w') (fun i => l.length - i) (0) ⟨rfl, trivial⟩ ⟨⟨Nat.zero_le _, fun j b h => absurd h (by omega)⟩, (Ex.rfl_ _)⟩ ?_
   rintro i wl9 ⟨⟨hi, hall⟩, hxwl9⟩
   refine CW.sub (S' := [(5, _), (1, _), (2, _)]) ⟨rfl, rfl, rfl, trivial⟩ ?_
   refine CW.seq (CW.seq (CW.region ?_))
   refine RG.vl rfl rfl rfl (Ev.move rfl rfl) ?_
   refine RG.vl rfl rfl rfl (Ev.move rfl rfl) ?_
   refine RG.vl rfl rfl rfl (Ev.lenL rfl rfl rfl Tryz.underlying34 ((hl.ext hxwl9))) ?_
   refine RG.vl rfl rfl rfl (Ev.lss rfl rfl rfl) ?_
   refine RG.done (QW.then_ ?_)
   refine CW.condP rfl (fun hc10 => ?_) (fun hc10 => ?_)
   ·refine CW.skip (QW.then_ (CW.seq (CW.block (CW.seq ?_))))
    obtain ⟨b, hk⟩ : ∃ b, l[i]? = some b := ⟨l[i]'(by omega), List.getElem?_eq_getElem _⟩
    
    refine CW.region ?_
    refine RG.vl rfl rfl rfl (Ev.move rfl rfl) ?_
    refine RG.vl rfl rfl rfl (Ev.move rfl rfl) ?_
    refine RG.idxL rfl rfl rfl rfl rfl rfl Tryz.underlying34 sz_37 ((hl.ext hxwl9)) (hk) (fun p11 hp11b hp11 => ?_)
    refine RG.vl rfl rfl rfl (Ev.ldAgg rfl rfl Tryz.underlying37 rfl sz_37 rfl (hp11)) ?_
    refine RG.local_ rfl rfl rfl rfl (fun _ => rfl) rfl rfl (fun _ => rfl) inf_37 rfl rfl rfl (fun g12 w12 eg12 hx12 hb12 => ?_)
    replace hxwl9 := Ex.tr hxwl9 hx12
    have hE13 := hx12
    refine RG.done (QW.then_ (CW.seq (CW.region ?_)))
    refine RG.vl rfl rfl rfl (Ev.fld rfl rfl fld_37_0) ?_
    refine RG.vl rfl rfl rfl (Ev.ldAt rfl rfl Tryz.underlying3 rfl (hb12.cells) (rfl)) ?_
    refine RG.vl rfl rfl rfl (Ev.lss rfl rfl rfl) ?_
    refine RG.vl rfl rfl rfl (Ev.move rfl rfl) ?_
    refine RG.split (d := 30) rfl (fun hg14 => ?_) (fun hg14 => ?_)
    ·refine RG.pass rfl rfl rfl ?_
     refine RG.pass rfl rfl rfl ?_
     refine RG.pass rfl rfl rfl ?_
     refine RG.vl rfl rfl rfl (Ev.pickT rfl rfl rfl) ?_
     refine RG.vl rfl rfl rfl (Ev.move rfl rfl) ?_
     refine RG.pass rfl rfl rfl ?_
     refine RG.pass rfl rfl rfl ?_
     refine RG.pass rfl rfl rfl ?_
     refine RG.vl rfl rfl rfl (Ev.pickT rfl rfl rfl) ?_
     refine RG.vl rfl rfl rfl (Ev.move rfl rfl) ?_
     refine RG.pass rfl rfl rfl ?_
     refine RG.pass rfl rfl rfl ?_
     refine RG.pass rfl rfl rfl ?_
     refine RG.vl rfl rfl rfl (Ev.pickT rfl rfl rfl) ?_
     refine RG.vl rfl rfl rfl (Ev.move rfl rfl) ?_
     refine RG.pass rfl rfl rfl ?_
     refine RG.pass rfl rfl rfl ?_
     refine RG.pass rfl rfl rfl ?_
     refine RG.vl rfl rfl rfl (Ev.pickT rfl rfl rfl) ?_
     refine RG.vl rfl rfl rfl (Ev.move rfl rfl) ?_
     refine RG.pass rfl rfl rfl ?_
     refine RG.pass rfl rfl rfl ?_
     refine RG.pass rfl rfl rfl ?_
     refine RG.vl rfl rfl rfl (Ev.pickT rfl rfl rfl) ?_
     refine RG.done ?_
     refine QW.sub (S' := [(1, _), (2, _), (5, _), (54, _)]) ⟨rfl, rfl, rfl, rfl, trivial⟩ ?_
     refine QW.then_ ?_
     refine CW.condT rfl ?_
     refine CW.seq (CW.region ?_)
     refine RG.vl rfl rfl rfl (Ev.assign rfl rfl) ?_
     refine RG.done (QW.then_ (CW.ret (QW.blockR (QW.thenRet (QW.thenRet (QW.blockR ?_))))))
     refine QW.thenRet ?_
     refine QW.ret1 rfl rfl ?_
     have hB := (Ex.tr hR7 hxwl9)
     refine ⟨?_, hB⟩; unfold errOf; rw [if_neg (by omega), if_neg (by simpa using hs), if_pos]; intro hh; have := hh b (List.mem_of_getElem? hk); unfold InB at this; omega
    ·refine RG.vl rfl rfl rfl (Ev.fld rfl rfl fld_37_0) ?_
     refine RG.vl rfl rfl rfl (Ev.ldAt rfl rfl Tryz.underlying3 rfl (hb12.cells) (rfl)) ?_
     refine RG.vl rfl rfl rfl (Ev.gtr rfl rfl rfl) ?_
     refine RG.vl rfl rfl rfl (Ev.pickF rfl rfl rfl) ?_
     refine RG.vl rfl rfl rfl (Ev.move rfl rfl) ?_
     refine RG.split (d := 35) rfl (fun hg15 => ?_) (fun hg15 => ?_)
     ·refine RG.pass rfl rfl rfl ?_
      refine RG.pass rfl rfl rfl ?_
      refine RG.pass rfl rfl rfl ?_
      refine RG.vl rfl rfl rfl (Ev.pickT rfl rfl rfl) ?_
      refine RG.vl rfl rfl rfl (Ev.move rfl rfl) ?_
      refine RG.pass rfl rfl rfl ?_
      refine RG.pass rfl rfl rfl ?_
      refine RG.pass rfl rfl rfl ?_
      refine RG.vl rfl rfl rfl (Ev.pickT rfl rfl rfl) ?_
      refine RG.vl rfl rfl rfl (Ev.move rfl rfl) ?_
      refine RG.pass rfl rfl rfl ?_
      refine RG.pass rfl rfl rfl ?_
      refine RG.pass rfl rfl rfl ?_
      refine RG.vl rfl rfl rfl (Ev.pickT rfl rfl rfl) ?_
      refine RG.vl rfl rfl rfl (Ev.move rfl rfl) ?_
      refine RG.pass rfl rfl rfl ?_
      refine RG.pass rfl rfl rfl ?_
      refine RG.pass rfl rfl rfl ?_
      refine RG.vl rfl rfl rfl (Ev.pickT rfl rfl rfl) ?_
      refine RG.done ?_
      refine QW.sub (S' := [(1, _), (2, _), (5, _), (54, _)]) ⟨rfl, rfl, rfl, rfl, trivial⟩ ?_
      refine QW.then_ ?_
      refine CW.condT rfl ?_
      refine CW.seq (CW.region ?_)
      refine RG.vl rfl rfl rfl (Ev.assign rfl rfl) ?_
      refine RG.done (QW.then_ (CW.ret (QW.blockR (QW.thenRet (QW.thenRet (QW.blockR ?_))))))
      refine QW.thenRet ?_
      refine QW.ret1 rfl rfl ?_
      have hB := (Ex.tr hR7 hxwl9)
      refine ⟨?_, hB⟩; unfold errOf; rw [if_neg (by omega), if_neg (by simpa using hs), if_pos]; intro hh; have := hh b (List.mem_of_getElem? hk); unfold InB at this; omega
     ·refine RG.vl rfl rfl rfl (Ev.fld rfl rfl fld_37_1) ?_
      refine RG.vl rfl rfl rfl (Ev.ldAt rfl rfl Tryz.underlying3 rfl (hb12.cells) (rfl)) ?_
      refine RG.vl rfl rfl rfl (Ev.lss rfl rfl rfl) ?_
      refine RG.vl rfl rfl rfl (Ev.pickF rfl rfl rfl) ?_
      refine RG.vl rfl rfl rfl (Ev.move rfl rfl) ?_
      refine RG.split (d := 40) rfl (fun hg16 => ?_) (fun hg16 => ?_)
      ·refine RG.pass rfl rfl rfl ?_
       refine RG.pass rfl rfl rfl ?_
       refine RG.pass rfl rfl rfl ?_
       refine RG.vl rfl rfl rfl (Ev.pickT rfl rfl rfl) ?_
       refine RG.vl rfl rfl rfl (Ev.move rfl rfl) ?_
       refine RG.pass rfl rfl rfl ?_
       refine RG.pass rfl rfl rfl ?_
       refine RG.pass rfl rfl rfl ?_
       refine RG.vl rfl rfl rfl (Ev.pickT rfl rfl rfl) ?_
       refine RG.vl rfl rfl rfl (Ev.move rfl rfl) ?_
       refine RG.pass rfl rfl rfl ?_
       refine RG.pass rfl rfl rfl ?_
       refine RG.pass rfl rfl rfl ?_
       refine RG.vl rfl rfl rfl (Ev.pickT rfl rfl rfl) ?_
       refine RG.done ?_
       refine QW.sub (S' := [(1, _), (2, _), (5, _), (54, _)]) ⟨rfl, rfl, rfl, rfl, trivial⟩ ?_
       refine QW.then_ ?_
       refine CW.condT rfl ?_
       refine CW.seq (CW.region ?_)
       refine RG.vl rfl rfl rfl (Ev.assign rfl rfl) ?_
       refine RG.done (QW.then_ (CW.ret (QW.blockR (QW.thenRet (QW.thenRet (QW.blockR ?_))))))
       refine QW.thenRet ?_
       refine QW.ret1 rfl rfl ?_
       have hB := (Ex.tr hR7 hxwl9)
       refine ⟨?_, hB⟩; unfold errOf; rw [if_neg (by omega), if_neg (by simpa using hs), if_pos]; intro hh; have := hh b (List.mem_of_getElem? hk); unfold InB at this; omega
      ·refine RG.vl rfl rfl rfl (Ev.fld rfl rfl fld_37_1) ?_
       refine RG.vl rfl rfl rfl (Ev.ldAt rfl rfl Tryz.underlying3 rfl (hb12.cells) (rfl)) ?_
       refine RG.vl rfl rfl rfl (Ev.gtr rfl rfl rfl) ?_
       refine RG.vl rfl rfl rfl (Ev.pickF rfl rfl rfl) ?_
       refine RG.vl rfl rfl rfl (Ev.move rfl rfl) ?_
       refine RG.split (d := 45) rfl (fun hg17 => ?_) (fun hg17 => ?_)
       ·refine RG.pass rfl rfl rfl ?_
        refine RG.pass rfl rfl rfl ?_
        refine RG.pass rfl rfl rfl ?_
        refine RG.vl rfl rfl rfl (Ev.pickT rfl rfl rfl) ?_
        refine RG.vl rfl rfl rfl (Ev.move rfl rfl) ?_
        refine RG.pass rfl rfl rfl ?_
        refine RG.pass rfl rfl rfl ?_
        refine RG.pass rfl rfl rfl ?_
        refine RG.vl rfl rfl rfl (Ev.pickT rfl rfl rfl) ?_
        refine RG.done ?_
        refine QW.sub (S' := [(1, _), (2, _), (5, _), (54, _)]) ⟨rfl, rfl, rfl, rfl, trivial⟩ ?_
        refine QW.then_ ?_
        refine CW.condT rfl ?_
        refine CW.seq (CW.region ?_)
        refine RG.vl rfl rfl rfl (Ev.assign rfl rfl) ?_
        refine RG.done (QW.then_ (CW.ret (QW.blockR (QW.thenRet (QW.thenRet (QW.blockR ?_))))))
        refine QW.thenRet ?_
        refine QW.ret1 rfl rfl ?_
        have hB := (Ex.tr hR7 hxwl9)
        refine ⟨?_, hB⟩; unfold errOf; rw [if_neg (by omega), if_neg (by simpa using hs), if_pos]; intro hh; have := hh b (List.mem_of_getElem? hk); unfold InB at this; omega
       ·refine RG.vl rfl rfl rfl (Ev.fld rfl rfl fld_37_2) ?_
        refine RG.vl rfl rfl rfl (Ev.ldAt rfl rfl Tryz.underlying3 rfl (hb12.cells) (rfl)) ?_
        refine RG.vl rfl rfl rfl (Ev.lss rfl rfl rfl) ?_
        refine RG.vl rfl rfl rfl (Ev.pickF rfl rfl rfl) ?_
        refine RG.vl rfl rfl rfl (Ev.move rfl rfl) ?_
        refine RG.split (d := 50) rfl (fun hg18 => ?_) (fun hg18 => ?_)
        ·refine RG.pass rfl rfl rfl ?_
         refine RG.pass rfl rfl rfl ?_
         refine RG.pass rfl rfl rfl ?_
         refine RG.vl rfl rfl rfl (Ev.pickT rfl rfl rfl) ?_
         refine RG.done ?_
         refine QW.sub (S' := [(1, _), (2, _), (5, _), (54, _)]) ⟨rfl, rfl, rfl, rfl, trivial⟩ ?_
         refine QW.then_ ?_
         refine CW.condT rfl ?_
         refine CW.seq (CW.region ?_)
         refine RG.vl rfl rfl rfl (Ev.assign rfl rfl) ?_
         refine RG.done (QW.then_ (CW.ret (QW.blockR (QW.thenRet (QW.thenRet (QW.blockR ?_))))))
         refine QW.thenRet ?_
         refine QW.ret1 rfl rfl ?_
         have hB := (Ex.tr hR7 hxwl9)
         refine ⟨?_, hB⟩; unfold errOf; rw [if_neg (by omega), if_neg (by simpa using hs), if_pos]; intro hh; have := hh b (List.mem_of_getElem? hk); unfold InB at this; omega
        ·refine RG.vl rfl rfl rfl (Ev.fld rfl rfl fld_37_2) ?_
         refine RG.vl rfl rfl rfl (Ev.ldAt rfl rfl Tryz.underlying3 rfl (hb12.cells) (rfl)) ?_
         refine RG.vl rfl rfl rfl (Ev.gtr rfl rfl rfl) ?_
         refine RG.vl rfl rfl rfl (Ev.pickF rfl rfl rfl) ?_
         refine RG.done ?_
         refine QW.sub (S' := [(1, _), (2, _), (5, _), (54, _)]) ⟨rfl, rfl, rfl, rfl, trivial⟩ ?_
         refine QW.then_ ?_
         refine CW.condP rfl (fun hc19 => ?_) (fun hc19 => ?_)
         ·refine CW.seq (CW.region ?_)
          refine RG.vl rfl rfl rfl (Ev.assign rfl rfl) ?_
          refine RG.done (QW.then_ (CW.ret (QW.blockR (QW.thenRet (QW.thenRet (QW.blockR ?_))))))
          refine QW.thenRet ?_
          refine QW.ret1 rfl rfl ?_
          have hB := (Ex.tr hR7 hxwl9)
          refine ⟨?_, hB⟩; unfold errOf; rw [if_neg (by omega), if_neg (by simpa using hs), if_pos]; intro hh; have := hh b (List.mem_of_getElem? hk); unfold InB at this; omega
         ·refine CW.skip (QW.blockN (QW.then_ (CW.region ?_)))
          refine RG.vl rfl rfl rfl (Ev.move rfl rfl) ?_
          refine RG.vl rfl rfl rfl (Ev.addI rfl rfl rfl (by omega)) ?_
          refine RG.vl rfl rfl rfl (Ev.assign rfl rfl) ?_
          refine RG.done ?_
          refine QW.round1 (i + 1) ⟨rfl, trivial⟩ ⟨rfl, rfl, trivial⟩ ⟨⟨by omega, fun j b' hj hb' => by rcases Nat.lt_or_ge j i with h | h; exact hall j b' h hb'; obtain rfl : j = i := (by omega); rw [hk] at hb'; injection hb' with hb'; subst hb'; unfold InB; omega⟩, hxwl9⟩ (by omega)
   ·refine CW.exit (QW.thenExit (QW.thenExit (QW.blockHit (QW.then_ (CW.seq (CW.seq ?_))))))
    have hin : ∀ b ∈ l, InB b := fun b hb => by obtain ⟨j, hj, rfl⟩ := List.getElem_of_mem hb; exact hall j _ (by omega) (List.getElem?_eq_getElem _)
    refine CW.region ?_
    refine RG.vl rfl rfl rfl (Ev.assign rfl rfl) ?_
    refine RG.done (QW.then_ (CW.block ?_))
    replace hl := (hl.ext hxwl9)
    replace hb1 := (hb1.ext hxwl9)
    have hR20 := (Ex.tr hR7 hxwl9)
    have hR21 := (Ex.tr hR8 hxwl9)
    have hR22 := hxwl9
    refine CW.loop1 [(1, _), (2, _)] ⟨rfl, rfl, trivial⟩ (fun (i : Nat) => [(7, .int .i64 i)]) (fun i w' => (i ≤ l.length ∧ Fit s (l.take i)) ∧ Ex wl9 w') (fun i => l.length - i) (0) ⟨rfl, trivial⟩ ⟨⟨Nat.zero_le _, fit_nil s⟩, (Ex.rfl_ _)⟩ ?_
    rintro i wl23 ⟨⟨hi, hfit⟩, hxwl23⟩
    refine CW.sub (S' := [(7, _), (1, _), (2, _)]) ⟨rfl, rfl, rfl, trivial⟩ ?_
    refine CW.seq (CW.seq (CW.region ?_))
    refine RG.vl rfl rfl rfl (Ev.move rfl rfl) ?_
    refine RG.vl rfl rfl rfl (Ev.move rfl rfl) ?_
    refine RG.vl rfl rfl rfl (Ev.lenL rfl rfl rfl Tryz.underlying34 ((hl.ext hxwl23))) ?_
    refine RG.vl rfl rfl rfl (Ev.lss rfl rfl rfl) ?_
    refine RG.done (QW.then_ ?_)
    refine CW.condP rfl (fun hc24 => ?_) (fun hc24 => ?_)
    ·refine CW.skip (QW.then_ (CW.seq (CW.block (CW.seq ?_))))
     obtain ⟨b, hk⟩ : ∃ b, l[i]? = some b := ⟨l[i]'(by omega), List.getElem?_eq_getElem _⟩
     
     refine CW.region ?_
     refine RG.vl rfl rfl rfl (Ev.assign rfl rfl) ?_
     refine RG.done (QW.then_ (CW.seq (CW.seq (CW.region ?_))))
     refine RG.vl rfl rfl rfl (Ev.assign rfl rfl) ?_
     refine RG.done (QW.then_ (CW.block ?_))
     replace hl := (hl.ext hxwl23)
     replace hb1 := (hb1.ext hxwl23)
     have hR25 := (Ex.tr hR20 hxwl23)
     have hR26 := (Ex.tr hR21 hxwl23)
     have hR27 := (Ex.tr hR22 hxwl23)
     have hR28 := hxwl23
     refine CW.loop2 [(1, _), (2, _), (7, _)] ⟨rfl, rfl, rfl, trivial⟩ (fun (k : Nat) (c : Nat) => [(9, .int .i64 k), (8, .int .i64 c)]) (fun k c w' => ((k : Int) ≤ s.pl ∧ Cnt s b l i k c) ∧ Ex wl23 w') (fun k c => s.pl.toNat - k) (0) (0) ⟨rfl, rfl, trivial⟩ ⟨⟨by have := hs.1; omega, .inl ⟨rfl, fun k' h => by have := (plc_range s b k' hs h).1; omega⟩⟩, (Ex.rfl_ _)⟩ ?_
     rintro k c wl29 ⟨⟨hkp, hc⟩, hxwl29⟩
     refine CW.sub (S' := [(9, _), (8, _), (1, _), (2, _), (7, _)]) ⟨rfl, rfl, rfl, rfl, rfl, trivial⟩ ?_
     have hc1 := cnt_le hc
     refine CW.seq (CW.seq (CW.region ?_))
     refine RG.vl rfl rfl rfl (Ev.move rfl rfl) ?_
     refine RG.vl rfl rfl rfl (Ev.fld rfl rfl fld_38_0) ?_
     refine RG.vl rfl rfl rfl (Ev.ldAt rfl rfl Tryz.underlying3 rfl ((hb1.ext hxwl29).cells) (rfl)) ?_
     refine RG.vl rfl rfl rfl (Ev.lss rfl rfl rfl) ?_
     refine RG.done (QW.then_ ?_)
     refine CW.condP rfl (fun hc30 => ?_) (fun hc30 => ?_)
     ·refine CW.skip (QW.then_ (CW.seq (CW.block (CW.seq (CW.seq ?_)))))
      have hib := hin b (List.mem_of_getElem? hk)
      refine CW.draw [] (.ex) 8 rfl mixed (fun wd31 hxwd31 => ?_)
      replace hxwl29 := Ex.tr hxwl29 hxwd31
      have hE32 := hxwd31
      refine AG.take 0 rfl (by kernel_rfl) (by kernel_rfl) rfl rfl rfl (fun wq hq => Ev.ldAgg rfl rfl Tryz.underlying38 rfl sz_38 rfl (((hb1.ext hxwl29).ext hq).cells)) ?_
      refine AG.takeW 1 rfl (by kernel_rfl) (by kernel_rfl) rfl rfl rfl (fun _ => Ev.move rfl rfl) ?_
      refine AG.takeW 2 rfl (by kernel_rfl) (by kernel_rfl) rfl rfl rfl (fun _ => Ev.move rfl rfl) ?_
      refine AG.idxL _ 3 rfl (by kernel_rfl) (by kernel_rfl) rfl rfl rfl rfl rfl rfl Tryz.underlying34 sz_37 ((hl.ext hxwl29)) (hk) (fun p33 hp33b hp33 => ?_)
      refine AG.take 4 rfl (by kernel_rfl) (by kernel_rfl) rfl rfl rfl (fun wq hq => Ev.ldAgg rfl rfl Tryz.underlying37 rfl sz_37 rfl (hp33.ext hq hp33b)) ?_
      refine AG.takeW 5 rfl (by kernel_rfl) (by kernel_rfl) rfl rfl rfl (fun _ => Ev.move rfl rfl) ?_
      refine AG.only 6 rfl (by kernel_rfl) ?_
      refine RG.call rfl rfl rfl rfl rfl rfl rfl en_51 (stands_ret _ _ _ _ hs (by assumption) (by omega) (by omega)) ?_
      rintro _ w35 ⟨rfl, hx35⟩
      replace hxwl29 := Ex.tr hxwl29 hx35
      replace hE32 := Ex.tr hE32 hx35
      have hE36 := hx35
      refine RG.done ?_
      refine QW.an (fun _ => hE36) ?_
      refine AG.takeW 7 rfl (by kernel_rfl) (by kernel_rfl) rfl rfl rfl (fun _ => Ev.notP rfl rfl) ?_
      refine AG.done (by kernel_rfl) ?_
      refine QW.then_ ?_
      refine CW.condP rfl (fun hc37 => ?_) (fun hc37 => ?_)
      ·refine CW.exit (QW.thenExit (QW.blockHit (QW.then_ (CW.region ?_))))
       refine RG.vl rfl rfl rfl (Ev.move rfl rfl) ?_
       refine RG.vl rfl rfl rfl (Ev.addI rfl rfl rfl (by omega)) ?_
       refine RG.vl rfl rfl rfl (Ev.assign rfl rfl) ?_
       refine RG.done ?_
       refine QW.sub (S' := [(1, _), (2, _), (7, _), (8, _), (9, _)]) ⟨rfl, rfl, rfl, rfl, rfl, trivial⟩ ?_
       refine QW.round2 (k + 1) (c) ⟨rfl, rfl, trivial⟩ ⟨rfl, rfl, rfl, trivial⟩ ⟨⟨by omega, cnt_miss s b l i k c hs (by omega) (by assumption) hc⟩, hxwl29⟩ (by omega)
      ·refine CW.skip (QW.then_ (CW.seq (CW.region ?_)))
       refine RG.vl rfl rfl rfl (Ev.move rfl rfl) ?_
       refine RG.vl rfl rfl rfl (Ev.addI rfl rfl rfl (by omega)) ?_
       refine RG.vl rfl rfl rfl (Ev.assign rfl rfl) ?_
       refine RG.done ?_
       refine QW.sub (S' := [(1, _), (2, _), (7, _), (8, _), (9, _)]) ⟨rfl, rfl, rfl, rfl, rfl, trivial⟩ ?_
       refine QW.then_ (CW.seq ?_)
       have hst : Stand s b k := by simpa using (by assumption : ¬ ¬ Stand s b k)
       refine CW.region ?_
       refine RG.vl rfl rfl rfl (Ev.assign rfl rfl) ?_
       refine RG.done (QW.then_ (CW.block ?_))
       replace hl := (hl.ext hxwl29)
       replace hb1 := (hb1.ext hxwl29)
       replace hp33 := (hp33.ext hE36 hp33b)
       replace hp33b := (Nat.lt_of_lt_of_le hp33b hE36.size)
       have hR38 := (Ex.tr hR25 hxwl29)
       have hR39 := (Ex.tr hR26 hxwl29)
       have hR40 := (Ex.tr hR27 hxwl29)
       have hR41 := (Ex.tr hR28 hxwl29)
       have hR42 := hxwl29
       have hR43 := hE32
       have hR44 := hE36
       refine CW.loop1 [(1, _), (2, _), (7, _), (8, _), (9, _)] ⟨rfl, rfl, rfl, rfl, rfl, trivial⟩ (fun (j : Nat) => [(10, .int .i64 j)]) (fun j w' => (j ≤ i ∧ ∀ j' b', j' < j → l[j']? = some b' → plc s b' ≠ plc s b) ∧ Ex w35 w') (fun j => i - j) (0) ⟨rfl, trivial⟩ ⟨⟨Nat.zero_le _, fun j b h => absurd h (by omega)⟩, (Ex.rfl_ _)⟩ ?_
       rintro j wl45 ⟨⟨hj, hno⟩, hxwl45⟩
       refine CW.sub (S' := [(10, _), (1, _), (2, _), (7, _), (8, _), (9, _)]) ⟨rfl, rfl, rfl, rfl, rfl, rfl, trivial⟩ ?_
       refine CW.seq (CW.seq (CW.region ?_))
       refine RG.vl rfl rfl rfl (Ev.move rfl rfl) ?_
       refine RG.vl rfl rfl rfl (Ev.move rfl rfl) ?_
       refine RG.vl rfl rfl rfl (Ev.lss rfl rfl rfl) ?_
       refine RG.done (QW.then_ ?_)
       refine CW.condP rfl (fun hc46 => ?_) (fun hc46 => ?_)
       ·refine CW.skip (QW.then_ (CW.seq (CW.block (CW.seq ?_))))
        obtain ⟨b', hk2⟩ : ∃ b', l[j]? = some b' := ⟨l[j]'(by omega), List.getElem?_eq_getElem _⟩
        have hib2 := hin b' (List.mem_of_getElem? hk2)
        refine CW.draw [] (.ex) 7 rfl mixed (fun wd47 hxwd47 => ?_)
        replace hxwl45 := Ex.tr hxwl45 hxwd47
        have hE48 := hxwd47
        refine AG.take 0 rfl (by kernel_rfl) (by kernel_rfl) rfl rfl rfl (fun wq hq => Ev.ldAgg rfl rfl Tryz.underlying38 rfl sz_38 rfl (((hb1.ext hxwl45).ext hq).cells)) ?_
        refine AG.takeW 1 rfl (by kernel_rfl) (by kernel_rfl) rfl rfl rfl (fun _ => Ev.move rfl rfl) ?_
        refine AG.takeW 2 rfl (by kernel_rfl) (by kernel_rfl) rfl rfl rfl (fun _ => Ev.move rfl rfl) ?_
        refine AG.idxL _ 3 rfl (by kernel_rfl) (by kernel_rfl) rfl rfl rfl rfl rfl rfl Tryz.underlying34 sz_37 ((hl.ext hxwl45)) (hk2) (fun p49 hp49b hp49 => ?_)
        refine AG.take 4 rfl (by kernel_rfl) (by kernel_rfl) rfl rfl rfl (fun wq hq => Ev.ldAgg rfl rfl Tryz.underlying37 rfl sz_37 rfl (hp49.ext hq hp49b)) ?_
        refine AG.takeW 5 rfl (by kernel_rfl) (by kernel_rfl) rfl rfl rfl (fun _ => Ev.move rfl rfl) ?_
        refine AG.only 6 rfl (by kernel_rfl) ?_
        refine RG.call rfl rfl rfl rfl rfl rfl rfl en_51 (stands_ret _ _ _ _ hs (by assumption) (by omega) (by omega)) ?_
        rintro _ w51 ⟨rfl, hx51⟩
        replace hxwl45 := Ex.tr hxwl45 hx51
        replace hE48 := Ex.tr hE48 hx51
        have hE52 := hx51
        refine RG.done ?_
        refine QW.an (fun _ => hE52) ?_
        refine AG.done (by kernel_rfl) ?_
        refine QW.then_ ?_
        refine CW.condP rfl (fun hc53 => ?_) (fun hc53 => ?_)
        ·refine CW.seq (CW.region ?_)
         refine RG.vl rfl rfl rfl (Ev.assign rfl rfl) ?_
         refine RG.done (QW.then_ (CW.ret (QW.blockR (QW.thenRet (QW.thenRet (QW.blockR ?_))))))
         refine QW.blockR (QW.thenRet (QW.thenRet (QW.blockR (QW.thenRet (QW.blockR (QW.thenRet ?_))))))
         refine QW.thenRet (QW.blockR (QW.thenRet ?_))
         refine QW.ret1 rfl rfl ?_
         have hB := (Ex.tr hR38 hxwl45)
         exact ⟨by unfold errOf; rw [if_neg (by omega), if_neg (by simpa using hs), if_neg (by simpa using hin), if_neg]; exact not_fit s l i j b b' hk hk2 (by omega) (by rw [(stand_iff s b k hs (by omega) (by omega)).1 (by assumption), (stand_iff s b' k hs (by omega) (by omega)).1 (by assumption)]), hB⟩
        ·refine CW.skip (QW.blockN (QW.then_ (CW.region ?_)))
         refine RG.vl rfl rfl rfl (Ev.move rfl rfl) ?_
         refine RG.vl rfl rfl rfl (Ev.addI rfl rfl rfl (by omega)) ?_
         refine RG.vl rfl rfl rfl (Ev.assign rfl rfl) ?_
         refine RG.done ?_
         refine QW.round1 (j + 1) ⟨rfl, trivial⟩ ⟨rfl, rfl, rfl, rfl, rfl, trivial⟩ ⟨⟨by omega, fun j' b2 hj' hb2 => by rcases Nat.lt_or_ge j' j with h | h; exact hno j' b2 h hb2; obtain rfl : j' = j := (by omega); rw [hk2] at hb2; injection hb2 with hb2; subst hb2; intro e; rw [(stand_iff s b k hs (by omega) (by omega)).1 (by assumption)] at e; exact absurd ((stand_iff s _ k hs (by omega) (by omega)).2 e) (by assumption)⟩, hxwl45⟩ (by omega)
       ·refine CW.exit (QW.thenExit (QW.thenExit (QW.blockHit (QW.blockN (QW.then_ (CW.region ?_))))))
        refine RG.vl rfl rfl rfl (Ev.move rfl rfl) ?_
        refine RG.vl rfl rfl rfl (Ev.addI rfl rfl rfl (by omega)) ?_
        refine RG.vl rfl rfl rfl (Ev.assign rfl rfl) ?_
        refine RG.done ?_
        refine QW.round2 (k + 1) (c + 1) ⟨rfl, rfl, trivial⟩ ⟨rfl, rfl, rfl, trivial⟩ ⟨⟨by omega, cnt_hit s b l i k c hs (by omega) (by assumption) (fun j' b' h => hno j' b' (by omega)) hc⟩, (Ex.tr hR42 hxwl45)⟩ (by omega)
     ·refine CW.exit (QW.thenExit (QW.thenExit (QW.blockHit (QW.then_ (CW.seq (CW.region ?_))))))
      refine RG.vl rfl rfl rfl (Ev.move rfl rfl) ?_
      refine RG.vl rfl rfl rfl (Ev.eqI rfl rfl rfl) ?_
      refine RG.done (QW.then_ ?_)
      refine CW.condP rfl (fun hc54 => ?_) (fun hc54 => ?_)
      ·refine CW.seq (CW.region ?_)
       refine RG.vl rfl rfl rfl (Ev.assign rfl rfl) ?_
       refine RG.done (QW.then_ (CW.ret (QW.blockR (QW.thenRet (QW.thenRet (QW.blockR ?_))))))
       refine QW.thenRet ?_
       refine QW.ret1 rfl rfl ?_
       have hB := (Ex.tr hR25 hxwl29)
       exact ⟨by unfold errOf; rw [if_neg (by omega), if_neg (by simpa using hs), if_neg (by simpa using hin), if_neg]; exact not_fit0 s l i b hk (by rcases hc with ⟨_, h⟩ | ⟨h, _⟩; exact plc_none s b hs (fun k' hk' => by have := h k' hk'; omega); omega), hB⟩
      ·refine CW.skip (QW.blockN (QW.then_ (CW.region ?_)))
       refine RG.vl rfl rfl rfl (Ev.move rfl rfl) ?_
       refine RG.vl rfl rfl rfl (Ev.addI rfl rfl rfl (by omega)) ?_
       refine RG.vl rfl rfl rfl (Ev.assign rfl rfl) ?_
       refine RG.done ?_
       refine QW.round1 (i + 1) ⟨rfl, trivial⟩ ⟨rfl, rfl, trivial⟩ ⟨⟨by omega, by rw [take_snoc l i b hk, fit_snoc]; rcases hc with ⟨h, _⟩ | ⟨_, h1, _, h2⟩; omega; exact ⟨hfit, h1, h2⟩⟩, (Ex.tr hR28 hxwl29)⟩ (by omega)
    ·refine CW.exit (QW.thenExit (QW.thenExit (QW.blockHit (QW.then_ (CW.seq (CW.region ?_))))))
     refine RG.vl rfl rfl rfl (Ev.assign rfl rfl) ?_
     refine RG.done (QW.then_ (CW.ret ?_))
     refine QW.ret1 rfl rfl ?_
     have hB := (Ex.tr hR20 hxwl23)
     refine ⟨?_, hB⟩; unfold errOf; rw [if_neg (by omega), if_neg (by simpa using hs), if_neg (by simpa using hin), if_pos]; have e : l.take i = l := List.take_of_length_le (by omega); rw [e] at hfit; exact hfit

end Go.Proofs.YtgjnchjkjdnidaaGreat

/- Chapter 21, plain: what the program's own steps make of bars. -/
namespace Go.Proofs.YtgjnchjkjdnidaaGreat

def half (s : Su) (n : Int) : Nat := if n ≤ s.lo then 0 else if n ≥ s.hi then 1 else 2
theorem half_lt (s : Su) (n : Int) : half s n < 3 := by unfold half; split <;> (try split) <;> omega
def tblU : List UInt8 := [84, 68, 63, 65, 70, 63, 63, 63, 63]
def tbl : List Value := [.int .u8 84, .int .u8 68, .int .u8 63, .int .u8 65, .int .u8 70, .int .u8 63, .int .u8 63, .int .u8 63, .int .u8 63]
theorem letter_tbl (s : Su) (b : Br) (h : s.lo < s.hi) : tbl[half s b.up * 3 + half s b.dn * 1]? = some (.int .u8 (letter s b).toNat) := by
  unfold half letter
  by_cases a1 : b.up ≤ s.lo <;> by_cases a2 : b.dn ≤ s.lo
  · rw [if_pos a1, if_pos a2, if_neg (by omega), if_neg (by omega), if_neg (by omega), if_neg (by omega)]; rfl
  · by_cases a3 : b.dn ≥ s.hi
    · rw [if_pos a1, if_neg a2, if_pos a3, if_neg (by omega), if_neg (by omega), if_neg (by omega), if_pos a3]; rfl
    · rw [if_pos a1, if_neg a2, if_neg a3, if_pos (by omega)]; rfl
  · by_cases a3 : b.up ≥ s.hi
    · rw [if_neg a1, if_pos a2, if_pos a3, if_neg (by omega), if_neg (by omega), if_pos a3]; rfl
    · rw [if_neg a1, if_pos a2, if_neg a3, if_pos (by omega)]; rfl
  · by_cases a3 : b.up ≥ s.hi <;> by_cases a4 : b.dn ≥ s.hi
    · rw [if_neg a1, if_neg a2, if_pos a3, if_pos a4, if_neg (by omega), if_pos (by omega)]; rfl
    · rw [if_neg a1, if_neg a2, if_pos a3, if_neg a4, if_pos (by omega)]; rfl
    · rw [if_neg a1, if_neg a2, if_neg a3, if_pos a4, if_pos (by omega)]; rfl
    · rw [if_neg a1, if_neg a2, if_neg a3, if_neg a4, if_pos (by omega)]; rfl

abbrev kI : Int → Value := fun i : Int => Value.int .i64 i
def foundOf (s : Su) (l : List Br) : List (Int × Value) := l.map fun b => ((plc s b).getD 0, b.v)
theorem found_snoc (s : Su) (l : List Br) (i : Nat) (b : Br) (k : Int) (hk : l[i]? = some b) (hp : plc s b = some k) : foundOf s (l.take (i + 1)) = foundOf s (l.take i) ++ [(k, b.v)] := by
  unfold foundOf; rw [take_snoc l i b hk, List.map_append]; simp [hp]
theorem found_get (s : Su) (k : Int) : ∀ (l : List Br), (∀ b ∈ l, (plc s b).isSome = true) → mget (foundOf s l) k = (l.find? fun b => plc s b == some k).map Br.v
  | [], _ => rfl
  | b :: l, h => by
    have ih := found_get s k l fun x hx => h x (by simp [hx])
    obtain ⟨q, hq⟩ := Option.isSome_iff_exists.1 (h b (by simp))
    unfold foundOf at ih ⊢
    simp only [List.map_cons, mget, List.find?_cons, hq, Option.getD_some]
    by_cases e : q = k
    · subst e; simp
    · have : (q == k) = false := by simpa using e
      rw [if_neg e, ih, show (some q == some k) = false from this]
def fbo (s : Su) (l : List Br) (k : Int) : Option Br := l.find? fun b => plc s b == some k
def fb (s : Su) (l : List Br) (k : Int) : Br := (fbo s l k).getD ⟨0, 0, 0⟩
theorem found_look (s : Su) (l : List Br) (k : Int) (hf : ∀ b ∈ l, (plc s b).isSome = true) :
    Value.tuple #[(mget (foundOf s l) k).getD (.agg #[.int .i64 0, .int .i64 0, .int .i64 0]), .bool (mget (foundOf s l) k).isSome] = .tuple #[(fb s l k).v, .bool (fbo s l k).isSome] := by
  rw [found_get s k l hf]
  unfold fb fbo
  cases l.find? (fun b => plc s b == some k) <;> rfl
theorem fbo_iff (s : Su) (l : List Br) (k : Int) (hf : ∀ b ∈ l, (plc s b).isSome = true) : (mget (foundOf s l) k).isSome = (fbo s l k).isSome := by
  rw [found_get s k l hf, Option.isSome_map]; rfl
theorem letterAt_fb (s : Su) (l : List Br) (k : Nat) (h : (fbo s l k).isSome = true) : letterAt s l k = letter s (fb s l k) ∧ fb s l k ∈ l := by
  obtain ⟨b, hb⟩ := Option.isSome_iff_exists.1 h
  unfold letterAt fb
  unfold fbo at hb ⊢
  rw [hb]
  exact ⟨rfl, List.mem_of_find?_eq_some hb⟩
theorem letterAt_no (s : Su) (l : List Br) (k : Nat) (h : (fbo s l k).isSome = false) : letterAt s l k = 63 := by
  unfold letterAt
  have : (l.find? fun b => plc s b == some (k : Int)) = none := by simpa [fbo] using h
  rw [this]
def txt (s : Su) (l : List Br) (k : Nat) : List Value := (List.range s.pl.toNat).map fun j => if j < k then .int .u8 (letterAt s l j).toNat else .int .u8 0
theorem txt_len (s : Su) (l : List Br) (k : Nat) : (txt s l k).length = s.pl.toNat := by simp [txt]
theorem txt_zero (s : Su) (l : List Br) : List.replicate s.pl.toNat (Value.int .u8 0) = txt s l 0 := by
  apply List.ext_getElem?
  intro i
  unfold txt
  rw [List.getElem?_map, List.getElem?_replicate]
  by_cases h : i < s.pl.toNat
  · rw [if_pos h, List.getElem?_range h]; simp
  · rw [if_neg h, List.getElem?_eq_none (by simpa using h)]; rfl
theorem txt_set (s : Su) (l : List Br) (k : Nat) (v : Value) (hv : v = .int .u8 (letterAt s l k).toNat) : (txt s l k).set (k * 1) v = txt s l (k + 1) := by
  subst hv
  apply List.ext_getElem?
  intro i
  unfold txt
  rw [List.getElem?_set, Nat.mul_one, List.length_map, List.length_range, List.getElem?_map, List.getElem?_map]
  by_cases h : k = i
  · subst h
    rw [if_pos rfl]
    by_cases hi : k < s.pl.toNat
    · rw [if_pos hi, List.getElem?_range hi]; simp
    · rw [if_neg hi, List.getElem?_eq_none (by simpa using hi)]; rfl
  · rw [if_neg h]
    by_cases hi : i < s.pl.toNat
    · rw [List.getElem?_range hi]; simp only [Option.map_some]; congr 1
      by_cases h2 : i < k
      · rw [if_pos h2, if_pos (by omega)]
      · rw [if_neg h2, if_neg (by omega)]
    · rw [List.getElem?_eq_none (by simpa using hi)]; rfl
theorem txt_set2 (s : Su) (l : List Br) (k : Nat) (u v : Value) (hv : v = .int .u8 (letterAt s l k).toNat) : ((txt s l k).set (k * 1) u).set (k * 1) v = txt s l (k + 1) := by
  rw [List.set_set]; exact txt_set s l k v hv
theorem txt_end (s : Su) (l : List Br) : txt s l s.pl.toNat = (textOf s l).flatMap encB := by
  unfold txt textOf encB
  rw [← List.map_eq_flatMap, List.map_map]
  exact List.map_congr_left fun j hj => by rw [if_pos (List.mem_range.1 hj)]; rfl
theorem txt_rd (s : Su) (l : List Br) {w : World} {g : Nat} {t : TypeId} (h : Blk w g t (txt s l s.pl.toNat)) (hp : s.pl ≤ 200) : RdL w 1 encB (.slice (some ⟨g, 0, none⟩) s.pl.toNat s.pl.toNat) (textOf s l) := by
  have e : (textOf s l).length = s.pl.toNat := by simp [textOf]
  rw [txt_end] at h
  have := RdL.of_blk (cap := (textOf s l).length) encB_len h (Nat.le_refl _) (by rw [e]; simp only [maxLen]; omega)
  rwa [e] at this
theorem mkb_eq (s : Su) (c : UInt8) (k : Nat) (p q : Bool) (hp : p = true ↔ (c = 65 ∨ c = 70)) (hq : q = true ↔ (c = 68 ∨ c = 70)) : mkb s c k = ⟨s.og + k * s.pi, if p = true then s.hi else s.lo, if q = true then s.hi else s.lo⟩ := by
  unfold mkb
  congr 1
  · by_cases h : p = true
    · rw [if_pos h, if_pos (hp.1 h)]
    · rw [if_neg h, if_neg fun e => h (hp.2 e)]
  · by_cases h : q = true
    · rw [if_pos h, if_pos (hq.1 h)]
    · rw [if_neg h, if_neg fun e => h (hq.2 e)]
theorem selT (c d : UInt8) (h : (c.toNat : Int) = (d.toNat : Int)) : true = true ↔ (c = d ∨ c = 70) := ⟨fun _ => .inl (byte_eq h), fun _ => rfl⟩
theorem selF (c d : UInt8) (h : ¬ (c.toNat : Int) = (d.toNat : Int)) : decide ((c.toNat : Int) = 70) = true ↔ (c = d ∨ c = 70) := by
  rw [decide_eq_true_iff]
  constructor
  · intro e; exact .inr (byte_eq (d := 70) e)
  · rintro (e | e)
    · subst e; exact absurd rfl h
    · subst e; rfl
theorem hts_look (lo hi : Int) (b : Bool) : (mget (([] ++ [(false, Value.int .i64 lo)]) ++ [(true, Value.int .i64 hi)]) b).getD (.int .i64 0) = .int .i64 (if b = true then hi else lo) := by cases b <;> rfl
theorem idx_letters (c : UInt8) : (Lib.indexByte [84, 65, 68, 70, 63] (c.toNat : Int).toNat.toUInt8 < 0) ↔ okLetter c = false := by
  rw [Int.toNat_natCast, show c.toNat.toUInt8 = c from by simp]
  unfold okLetter
  by_cases h1 : c = 84
  · subst h1; decide
  by_cases h2 : c = 65
  · subst h2; decide
  by_cases h3 : c = 68
  · subst h3; decide
  by_cases h4 : c = 70
  · subst h4; decide
  by_cases h5 : c = 63
  · subst h5; decide
  simp [Lib.indexByte, h1, h2, h3, h4, h5, Ne.symm h1, Ne.symm h2, Ne.symm h3, Ne.symm h4, Ne.symm h5]
theorem plc_bad (s : Su) (b : Br) (hb : b.po - s.og + s.sl < 0 ∨ 2 * s.sl < (b.po - s.og + s.sl) % s.pi) : plc s b = none := by
  unfold plc
  simp only
  rw [if_pos hb]
theorem plc_far (s : Su) (b : Br) (hb : s.pl ≤ (b.po - s.og + s.sl) / s.pi) : plc s b = none := by
  unfold plc
  simp only
  split
  · rfl
  · rw [if_neg (by omega)]
theorem plc_good (s : Su) (b : Br) (h0 : ¬ b.po - s.og + s.sl < 0) (h1 : ¬ 2 * s.sl < (b.po - s.og + s.sl) % s.pi) (hb : ¬ s.pl ≤ (b.po - s.og + s.sl) / s.pi) : plc s b = some ((b.po - s.og + s.sl) / s.pi) := by
  unfold plc
  simp only
  rw [if_neg (by omega), if_pos (by omega)]
theorem found_hit (s : Su) (l : List Br) (i : Nat) (k : Int) (hf : ∀ b ∈ l.take i, (plc s b).isSome = true) (h : (mget (foundOf s (l.take i)) k).isSome = true) : ∃ j b, j < i ∧ l[j]? = some b ∧ plc s b = some k := by
  rw [found_get s k _ hf, Option.isSome_map, List.find?_isSome] at h
  obtain ⟨b, hb, he⟩ := h
  obtain ⟨j, hj⟩ := List.mem_iff_getElem?.1 hb
  rw [List.getElem?_take] at hj
  split at hj
  · exact ⟨j, b, by assumption, hj, by simpa using he⟩
  · cases hj
theorem found_miss (s : Su) (l : List Br) (i : Nat) (k : Int) (hf : ∀ b ∈ l.take i, (plc s b).isSome = true) (h : (mget (foundOf s (l.take i)) k).isSome = false) : mget (foundOf s (l.take i)) k = none ∧ ∀ b' ∈ l.take i, plc s b' ≠ some k := by
  have hn : mget (foundOf s (l.take i)) k = none := by simpa using h
  refine ⟨hn, fun b' hb' e => ?_⟩
  rw [found_get s k _ hf, Option.map_eq_none_iff, List.find?_eq_none] at hn
  have := hn b' hb'
  simp [e] at this
def seenMin (s : Su) (l : List Br) (seen : List Nat) : Int := (seen.map fun i => match l[i]? with | some b => roomB s b | none => 0).foldl min 1048576
end Go.Proofs.YtgjnchjkjdnidaaGreat

/- Walks (HE). Written by program. -/
namespace Go.Proofs.YtgjnchjkjdnidaaGreat
open Go.RowKit
set_option maxRecDepth 100000 in
set_option maxHeartbeats 1000000 in
theorem within_ret (n m : Int) (w : World)  :
  Ret Tryz.prog 87 [.int .i64 n, .int .i64 m] w (fun v w' => v = .bool (decide (0 ≤ n ∧ n ≤ m)) ∧ Ex w w') := by
 have hB0 : Ex w w := Ex.rfl_ _
 refine Ret.of Tryz.func87 rfl Tryz.ntmps87 rfl ?_
 refine CW.seq (CW.region ?_)
 refine RG.vl rfl rfl rfl (Ev.assign rfl rfl) ?_
 refine RG.done (QW.then_ (CW.seq (CW.region ?_)))
 refine RG.vl rfl rfl rfl (Ev.move rfl rfl) ?_
 refine RG.vl rfl rfl rfl (Ev.geq rfl rfl rfl) ?_
 refine RG.vl rfl rfl rfl (Ev.move rfl rfl) ?_
 refine RG.split (d := 7) rfl (fun hg1 => ?_) (fun hg1 => ?_)
 ·refine RG.vl rfl rfl rfl (Ev.move rfl rfl) ?_
  refine RG.vl rfl rfl rfl (Ev.move rfl rfl) ?_
  refine RG.vl rfl rfl rfl (Ev.leq rfl rfl rfl) ?_
  refine RG.vl rfl rfl rfl (Ev.pickT rfl rfl rfl) ?_
  refine RG.vl rfl rfl rfl (Ev.assign rfl rfl) ?_
  refine RG.done (QW.then_ (CW.ret ?_))
  refine QW.ret1 rfl rfl ?_
  have hB := hB0
  refine ⟨congrArg Value.bool ?_, hB⟩; rw [eq_comm]; first | (rw [decide_eq_decide]; omega) | (rw [decide_eq_false_iff_not]; omega)
 ·refine RG.pass rfl rfl rfl ?_
  refine RG.pass rfl rfl rfl ?_
  refine RG.pass rfl rfl rfl ?_
  refine RG.vl rfl rfl rfl (Ev.pickF rfl rfl rfl) ?_
  refine RG.vl rfl rfl rfl (Ev.assign rfl rfl) ?_
  refine RG.done (QW.then_ (CW.ret ?_))
  refine QW.ret1 rfl rfl ?_
  have hB := hB0
  refine ⟨congrArg Value.bool ?_, hB⟩; rw [eq_comm]; first | (rw [decide_eq_decide]; omega) | (rw [decide_eq_false_iff_not]; omega)

set_option maxRecDepth 100000 in
set_option maxHeartbeats 1000000 in
theorem half_ret (s : Su) (n : Int) (g : Nat) (w : World) (hb : Blk w g 23 s.v.cells.toList) :
  Ret Tryz.prog 88 [.int .i64 n, .pointer (some ⟨g, 0, none⟩)] w (fun v w' => v = .int .i64 (half s n : Nat) ∧ Ex w w') := by
 have hB0 : Ex w w := Ex.rfl_ _
 refine Ret.of Tryz.func88 rfl Tryz.ntmps88 rfl ?_
 refine CW.seq (CW.region ?_)
 refine RG.vl rfl rfl rfl (Ev.assign rfl rfl) ?_
 refine RG.done (QW.then_ (CW.seq (CW.block (CW.seq (CW.region ?_)))))
 refine RG.vl rfl rfl rfl (Ev.move rfl rfl) ?_
 refine RG.vl rfl rfl rfl (Ev.fld rfl rfl fld_23_4) ?_
 refine RG.vl rfl rfl rfl (Ev.ldAt rfl rfl Tryz.underlying3 rfl (hb.cells) (rfl)) ?_
 refine RG.vl rfl rfl rfl (Ev.leq rfl rfl rfl) ?_
 refine RG.vl rfl rfl rfl (Ev.assign rfl rfl) ?_
 refine RG.done (QW.then_ ?_)
 refine CW.condP rfl (fun hc1 => ?_) (fun hc1 => ?_)
 ·refine CW.seq (CW.region ?_)
  refine RG.vl rfl rfl rfl (Ev.assign rfl rfl) ?_
  refine RG.done (QW.then_ (CW.ret (QW.blockR (QW.thenRet ?_))))
  refine QW.ret1 rfl rfl ?_
  have hB := hB0
  refine ⟨?_, hB⟩; unfold half; rw [if_pos (by omega)]; rfl
 ·refine CW.seq (CW.region ?_)
  refine RG.vl rfl rfl rfl (Ev.move rfl rfl) ?_
  refine RG.vl rfl rfl rfl (Ev.fld rfl rfl fld_23_5) ?_
  refine RG.vl rfl rfl rfl (Ev.ldAt rfl rfl Tryz.underlying3 rfl (hb.cells) (rfl)) ?_
  refine RG.vl rfl rfl rfl (Ev.geq rfl rfl rfl) ?_
  refine RG.vl rfl rfl rfl (Ev.assign rfl rfl) ?_
  refine RG.done (QW.then_ ?_)
  refine CW.condP rfl (fun hc2 => ?_) (fun hc2 => ?_)
  ·refine CW.seq (CW.region ?_)
   refine RG.vl rfl rfl rfl (Ev.assign rfl rfl) ?_
   refine RG.done (QW.then_ (CW.ret (QW.blockR (QW.thenRet ?_))))
   refine QW.ret1 rfl rfl ?_
   have hB := hB0
   refine ⟨?_, hB⟩; unfold half; rw [if_neg (by omega), if_pos (by omega)]; rfl
  ·refine CW.skip (QW.blockN (QW.then_ (CW.seq (CW.region ?_))))
   refine RG.vl rfl rfl rfl (Ev.assign rfl rfl) ?_
   refine RG.done (QW.then_ (CW.ret ?_))
   refine QW.ret1 rfl rfl ?_
   have hB := hB0
   refine ⟨?_, hB⟩; unfold half; rw [if_neg (by omega), if_neg (by omega)]; rfl

set_option maxRecDepth 100000 in
set_option maxHeartbeats 1000000 in
theorem halfBy_ret (s : Su) (w : World)  :
  Ret Tryz.prog 48 [s.v] w (fun v w' => ∃ g, v = .func (.func 88) #[] #[.pointer (some ⟨g, 0, none⟩)] ∧ w.heap.size ≤ g ∧ Blk w' g 23 s.v.cells.toList ∧ Ex w w') := by
 have hB0 : Ex w w := Ex.rfl_ _
 refine Ret.of Tryz.func48 rfl Tryz.ntmps48 rfl ?_
 refine CW.seq (CW.region ?_)
 refine RG.box rfl rfl rfl rfl rfl (fun g1 w1 eg1 hx1 hb1 => ?_)
 have hE2 := hx1
 refine RG.vl rfl rfl rfl (Ev.assign rfl rfl) ?_
 refine RG.done (QW.then_ (CW.seq (CW.region ?_)))
 refine RG.vl rfl rfl rfl (Ev.mkFn rfl rfl rfl rfl rfl) ?_
 refine RG.vl rfl rfl rfl (Ev.assign rfl rfl) ?_
 refine RG.done (QW.then_ (CW.ret ?_))
 refine QW.ret1 rfl rfl ?_
 have hB := (Ex.tr hB0 hE2)
 exact ⟨_, rfl, Nat.le_of_eq eg1.symm, hb1, hB⟩

set_option maxRecDepth 100000 in
set_option maxHeartbeats 1000000 in
theorem letters_ret  (w : World)  :
  Ret Tryz.prog 49 [] w (fun v w' => v = .agg tbl.toArray ∧ Ex w w') := by
 have hB0 : Ex w w := Ex.rfl_ _
 refine Ret.of Tryz.func49 rfl Tryz.ntmps49 rfl ?_
 refine CW.seq (CW.region ?_)
 refine RG.alloc_ rfl rfl rfl rfl inf_108 (fun g1 w1 eg1 hx1 hb1 => ?_)
 have hle2 : w.heap.size ≤ g1 := by have := (Ex.rfl_ w).size; omega
 have hE3 := hx1
 refine RG.done (QW.then_ (CW.seq (CW.region ?_)))
 refine RG.vl rfl rfl rfl (Ev.buildA (len := 3) (xs := [_, _, _]) rfl rfl rfl rfl Tryz.underlying107 sz_5 inf_107 rfl rfl) ?_
 refine RG.vl rfl rfl rfl (Ev.buildA (len := 3) (xs := [_, _, _]) rfl rfl rfl rfl Tryz.underlying107 sz_5 inf_107 rfl rfl) ?_
 refine RG.vl rfl rfl rfl (Ev.buildA (len := 3) (xs := [_, _, _]) rfl rfl rfl rfl Tryz.underlying107 sz_5 inf_107 rfl rfl) ?_
 refine RG.vl rfl rfl rfl (Ev.buildA (len := 3) (xs := [.tmp 1, .tmp 2, .tmp 3]) rfl rfl rfl rfl Tryz.underlying108 sz_107 inf_108 rfl rfl) ?_
 refine RG.stAll (g := g1) rfl rfl rfl rfl rfl sz_108 rfl rfl rfl hb1 (fun ws4 hwws4 hbws4 => ?_)
 replace hE3 := Wr.below hE3 hwws4 hle2
 refine RG.done (QW.then_ (CW.ret ?_))
 refine QW.retC rfl rfl Tryz.underlying108 rfl sz_108 rfl hbws4 ?_
 have hB := (Ex.tr hB0 hE3)
 exact ⟨rfl, hB⟩

set_option maxRecDepth 100000 in
set_option maxHeartbeats 1000000 in
theorem hidxb0_ret (s : ByteArray) (c : Int) (w : World)  :
  Ret Tryz.prog 86 [.string s, .int .u8 c] w (fun v w' => v = .int .i64 (Lib.indexByte s.data.toList c.toNat.toUInt8) ∧ Ex w w') := by
 have hB0 : Ex w w := Ex.rfl_ _
 refine Ret.of Tryz.func86 rfl Tryz.ntmps86 rfl ?_
 refine CW.seq (CW.region ?_)
 refine RG.vl rfl rfl rfl (Ev.assign rfl rfl) ?_
 refine RG.done (QW.then_ (CW.seq (CW.region ?_)))
 refine RG.vl rfl rfl rfl (Ev.move rfl rfl) ?_
 refine RG.vl rfl rfl rfl (Ev.move rfl rfl) ?_
 refine RG.vl rfl rfl rfl (Ev.ext_ rfl rfl rfl (xt_121 _ _ _)) ?_
 refine RG.vl rfl rfl rfl (Ev.assign rfl rfl) ?_
 refine RG.done (QW.then_ (CW.ret ?_))
 refine QW.ret1 rfl rfl ?_
 have hB := hB0
 exact ⟨rfl, hB⟩

set_option maxRecDepth 100000 in
set_option maxHeartbeats 1000000 in
theorem hidxb1_ret (s : ByteArray) (c : Int) (w : World)  :
  Ret Tryz.prog 46 [.string s, .int .u8 c] w (fun v w' => v = .int .i64 (Lib.indexByte s.data.toList c.toNat.toUInt8) ∧ Ex w w') := by
 have hB0 : Ex w w := Ex.rfl_ _
 refine Ret.of Tryz.func46 rfl Tryz.ntmps46 rfl ?_
 refine CW.seq (CW.region ?_)
 refine RG.vl rfl rfl rfl (Ev.assign rfl rfl) ?_
 refine RG.done (QW.then_ (CW.seq (CW.region ?_)))
 refine RG.vl rfl rfl rfl (Ev.move rfl rfl) ?_
 refine RG.vl rfl rfl rfl (Ev.move rfl rfl) ?_
 refine RG.call rfl rfl rfl rfl rfl rfl rfl en_86 (hidxb0_ret _ _ _) ?_
 rintro _ w1 ⟨rfl, hx1⟩
 have hE2 := hx1
 refine RG.vl rfl rfl rfl (Ev.assign rfl rfl) ?_
 refine RG.done (QW.then_ (CW.ret ?_))
 refine QW.ret1 rfl rfl ?_
 have hB := (Ex.tr hB0 hE2)
 exact ⟨rfl, hB⟩

end Go.Proofs.YtgjnchjkjdnidaaGreat

/- Walks (HF). Written by program. -/
namespace Go.Proofs.YtgjnchjkjdnidaaGreat
open Go.RowKit
set_option maxRecDepth 100000 in
set_option maxHeartbeats 1000000 in
theorem places_ret (s : Su) (u : Value) (l : List Br) (w : World) (hl : RdL w 3 Br.c u l) (hlen : l.length ≤ 1000) :
  Ret Tryz.prog 47 [s.v, u] w (fun v w' => ∃ m, v = .tuple #[m, .int .i64 (errOf s l)] ∧ (errOf s l = 0 → ∃ g, m = .map (some g) ∧ w.heap.size ≤ g ∧ Mp w' g (fun i : Int => Value.int .i64 i) (foundOf s l)) ∧ Ex w w') := by
 have hB0 : Ex w w := Ex.rfl_ _
 refine Ret.of Tryz.func47 rfl Tryz.ntmps47 rfl ?_
 refine CW.seq (CW.region ?_)
 refine RG.box rfl rfl rfl rfl rfl (fun g1 w1 eg1 hx1 hb1 => ?_)
 have hle2 : w.heap.size ≤ g1 := by have := (Ex.rfl_ w).size; omega
 have hE3 := hx1
 refine RG.vl rfl rfl rfl (Ev.assign rfl rfl) ?_
 refine RG.vl rfl rfl rfl (Ev.assign rfl rfl) ?_
 refine RG.done (QW.then_ (CW.seq (CW.seq (CW.region ?_))))
 refine RG.vl rfl rfl rfl (Ev.move rfl rfl) ?_
 refine RG.vl rfl rfl rfl (Ev.lenL rfl rfl rfl Tryz.underlying24 ((hl.ext hE3))) ?_
 refine RG.vl rfl rfl rfl (Ev.gtr rfl rfl rfl) ?_
 refine RG.done (QW.then_ ?_)
 refine CW.condP rfl (fun hc4 => ?_) (fun hc4 => ?_)
 ·refine CW.seq (CW.region ?_)
  refine RG.vl rfl rfl rfl (Ev.assign rfl rfl) ?_
  refine RG.vl rfl rfl rfl (Ev.assign rfl rfl) ?_
  refine RG.done (QW.then_ (CW.ret (QW.thenRet ?_)))
  refine QW.ret2 rfl rfl rfl ?_
  have hB := (Ex.tr hB0 hE3)
  have he : errOf s l = 5 := by unfold errOf; rw [if_pos (by omega)]
  exact ⟨_, by rw [he], fun h => absurd h (by rw [he]; decide), hB⟩
 ·refine CW.skip (QW.then_ (CW.seq (CW.seq (CW.region ?_))))
  refine RG.vl rfl rfl rfl (Ev.ldAgg rfl rfl Tryz.underlying23 rfl sz_23 rfl (hb1.cells)) ?_
  refine RG.call rfl rfl rfl rfl rfl rfl rfl en_45 (right_ret _ _) ?_
  rintro _ w5 ⟨rfl, hx5⟩
  replace hE3 := Ex.tr hE3 hx5
  have hE6 := hx5
  refine RG.vl rfl rfl rfl (Ev.notP rfl rfl) ?_
  refine RG.done (QW.then_ ?_)
  refine CW.condP rfl (fun hc7 => ?_) (fun hc7 => ?_)
  ·refine CW.seq ?_
   have hs : ¬ Okay s := by assumption
   refine CW.region ?_
   refine RG.vl rfl rfl rfl (Ev.assign rfl rfl) ?_
   refine RG.vl rfl rfl rfl (Ev.assign rfl rfl) ?_
   refine RG.done (QW.then_ (CW.ret (QW.thenRet ?_)))
   refine QW.ret2 rfl rfl rfl ?_
   have hB := (Ex.tr hB0 hE3)
   have he : errOf s l = 2 := by unfold errOf; rw [if_neg (by omega), if_pos hs]
   exact ⟨_, by rw [he], fun h => absurd h (by rw [he]; decide), hB⟩
  ·refine CW.skip (QW.then_ (CW.seq (CW.seq ?_)))
   have hs : Okay s := Decidable.not_not.1 (by assumption)
   obtain ⟨a1, a2, a3, a4, a5, a6, a7, a8, a9, a10, a11⟩ := id hs
   refine CW.region ?_
   refine RG.vl rfl rfl rfl (Ev.move rfl rfl) ?_
   refine RG.vl rfl rfl rfl (Ev.lenL rfl rfl rfl Tryz.underlying24 ((hl.ext hE3))) ?_
   refine RG.vl rfl rfl rfl (Ev.move rfl rfl) ?_
   refine RG.done (QW.then_ (CW.block ?_))
   replace hl := (hl.ext hE3)
   replace hb1 := (hb1.ext hE6)
   have hR8 := (Ex.tr hB0 hE3)
   have hR9 := hE6
   refine CW.loop1 [(1, _), (2, _), (21, _), (22, _)] ⟨rfl, rfl, rfl, rfl, trivial⟩ (fun (i : Nat) => [(23, .int .i64 i)]) (fun i w' => (i ≤ l.length ∧ ∀ j b, j < i → l[j]? = some b → InB b) ∧ Ex w5 w') (fun i => l.length - i) (0) ⟨rfl, trivial⟩ ⟨⟨Nat.zero_le _, fun j b h => absurd h (by omega)⟩, (Ex.rfl_ _)⟩ ?_
   rintro i wl10 ⟨⟨hi, hall⟩, hxwl10⟩
   refine CW.sub (S' := [(23, _), (1, _), (2, _), (21, _), (22, _)]) ⟨rfl, rfl, rfl, rfl, rfl, trivial⟩ ?_
   refine CW.seq (CW.region ?_)
   refine RG.vl rfl rfl rfl (Ev.lss rfl rfl rfl) ?_
   refine RG.done (QW.then_ (CW.seq ?_))
   refine CW.condP rfl (fun hc11 => ?_) (fun hc11 => ?_)
   ·refine CW.skip (QW.then_ (CW.seq (CW.block (CW.seq ?_))))
    obtain ⟨b, hk⟩ : ∃ b, l[i]? = some b := ⟨l[i]'(by omega), List.getElem?_eq_getElem _⟩
    
    refine CW.region ?_
    refine RG.idxL rfl rfl rfl rfl rfl rfl Tryz.underlying24 sz_36 ((hl.ext hxwl10)) (hk) (fun p12 hp12b hp12 => ?_)
    refine RG.vl rfl rfl rfl (Ev.ldAgg rfl rfl Tryz.underlying36 rfl sz_36 rfl (hp12)) ?_
    refine RG.local_ rfl rfl rfl rfl (fun _ => rfl) rfl rfl (fun _ => rfl) inf_36 rfl rfl rfl (fun g13 w13 eg13 hx13 hb13 => ?_)
    have hle14 : w5.heap.size ≤ g13 := by have := hxwl10.size; omega
    have hle15 : wl10.heap.size ≤ g13 := by have := (Ex.rfl_ wl10).size; omega
    have hlt16 : g1 < g13 := by have := Blk.lt (hb1.ext hxwl10); omega
    replace hxwl10 := Ex.tr hxwl10 hx13
    have hE17 := hx13
    refine RG.done (QW.then_ (CW.seq (CW.region ?_)))
    refine RG.vl rfl rfl rfl (Ev.fld rfl rfl fld_36_0) ?_
    refine RG.vl rfl rfl rfl (Ev.ldAt rfl rfl Tryz.underlying3 rfl (hb13.cells) (rfl)) ?_
    refine RG.call rfl rfl rfl rfl rfl rfl rfl en_87 (within_ret _ _ _) ?_
    rintro _ w18 ⟨rfl, hx18⟩
    replace hxwl10 := Ex.tr hxwl10 hx18
    replace hE17 := Ex.tr hE17 hx18
    have hE19 := hx18
    refine RG.vl rfl rfl rfl (Ev.notP rfl rfl) ?_
    refine RG.vl rfl rfl rfl (Ev.move rfl rfl) ?_
    refine RG.split (d := 31) rfl (fun hg20 => ?_) (fun hg20 => ?_)
    ·refine RG.pass rfl rfl rfl ?_
     refine RG.pass rfl rfl rfl ?_
     refine RG.pass rfl rfl rfl ?_
     refine RG.pass rfl rfl rfl ?_
     refine RG.vl rfl rfl rfl (Ev.pickT rfl rfl rfl) ?_
     refine RG.vl rfl rfl rfl (Ev.move rfl rfl) ?_
     refine RG.pass rfl rfl rfl ?_
     refine RG.pass rfl rfl rfl ?_
     refine RG.pass rfl rfl rfl ?_
     refine RG.pass rfl rfl rfl ?_
     refine RG.vl rfl rfl rfl (Ev.pickT rfl rfl rfl) ?_
     refine RG.done ?_
     refine QW.sub (S' := [(1, _), (2, _), (21, _), (22, _), (23, _), (42, _)]) ⟨rfl, rfl, rfl, rfl, rfl, rfl, trivial⟩ ?_
     refine QW.then_ ?_
     refine CW.condT rfl ?_
     refine CW.seq (CW.region ?_)
     refine RG.vl rfl rfl rfl (Ev.assign rfl rfl) ?_
     refine RG.vl rfl rfl rfl (Ev.assign rfl rfl) ?_
     refine RG.done (QW.then_ (CW.ret (QW.blockR (QW.thenRet (QW.thenRet (QW.blockR ?_))))))
     refine QW.thenRet ?_
     refine QW.ret2 rfl rfl rfl ?_
     have hB := (Ex.tr hR8 hxwl10)
     have he : errOf s l = 2 := by unfold errOf; rw [if_neg (by omega), if_neg (by simpa using hs), if_pos]; intro hh; have := hh b (List.mem_of_getElem? hk); unfold InB at this; omega
     exact ⟨_, by rw [he], fun h => absurd h (by rw [he]; decide), hB⟩
    ·refine RG.vl rfl rfl rfl (Ev.fld rfl rfl fld_36_1) ?_
     refine RG.vl rfl rfl rfl (Ev.ldAt rfl rfl Tryz.underlying3 rfl ((hb13.ext hE19).cells) (rfl)) ?_
     refine RG.call rfl rfl rfl rfl rfl rfl rfl en_87 (within_ret _ _ _) ?_
     rintro _ w21 ⟨rfl, hx21⟩
     replace hxwl10 := Ex.tr hxwl10 hx21
     replace hE17 := Ex.tr hE17 hx21
     replace hE19 := Ex.tr hE19 hx21
     have hE22 := hx21
     refine RG.vl rfl rfl rfl (Ev.notP rfl rfl) ?_
     refine RG.vl rfl rfl rfl (Ev.pickF rfl rfl rfl) ?_
     refine RG.vl rfl rfl rfl (Ev.move rfl rfl) ?_
     refine RG.split (d := 37) rfl (fun hg23 => ?_) (fun hg23 => ?_)
     ·refine RG.pass rfl rfl rfl ?_
      refine RG.pass rfl rfl rfl ?_
      refine RG.pass rfl rfl rfl ?_
      refine RG.pass rfl rfl rfl ?_
      refine RG.vl rfl rfl rfl (Ev.pickT rfl rfl rfl) ?_
      refine RG.done ?_
      refine QW.sub (S' := [(1, _), (2, _), (21, _), (22, _), (23, _), (42, _)]) ⟨rfl, rfl, rfl, rfl, rfl, rfl, trivial⟩ ?_
      refine QW.then_ ?_
      refine CW.condT rfl ?_
      refine CW.seq (CW.region ?_)
      refine RG.vl rfl rfl rfl (Ev.assign rfl rfl) ?_
      refine RG.vl rfl rfl rfl (Ev.assign rfl rfl) ?_
      refine RG.done (QW.then_ (CW.ret (QW.blockR (QW.thenRet (QW.thenRet (QW.blockR ?_))))))
      refine QW.thenRet ?_
      refine QW.ret2 rfl rfl rfl ?_
      have hB := (Ex.tr hR8 hxwl10)
      have he : errOf s l = 2 := by unfold errOf; rw [if_neg (by omega), if_neg (by simpa using hs), if_pos]; intro hh; have := hh b (List.mem_of_getElem? hk); unfold InB at this; omega
      exact ⟨_, by rw [he], fun h => absurd h (by rw [he]; decide), hB⟩
     ·refine RG.vl rfl rfl rfl (Ev.fld rfl rfl fld_36_2) ?_
      refine RG.vl rfl rfl rfl (Ev.ldAt rfl rfl Tryz.underlying3 rfl ((hb13.ext hE19).cells) (rfl)) ?_
      refine RG.call rfl rfl rfl rfl rfl rfl rfl en_87 (within_ret _ _ _) ?_
      rintro _ w24 ⟨rfl, hx24⟩
      replace hxwl10 := Ex.tr hxwl10 hx24
      replace hE17 := Ex.tr hE17 hx24
      replace hE19 := Ex.tr hE19 hx24
      replace hE22 := Ex.tr hE22 hx24
      have hE25 := hx24
      refine RG.vl rfl rfl rfl (Ev.notP rfl rfl) ?_
      refine RG.vl rfl rfl rfl (Ev.pickF rfl rfl rfl) ?_
      refine RG.done ?_
      refine QW.sub (S' := [(1, _), (2, _), (21, _), (22, _), (23, _), (42, _)]) ⟨rfl, rfl, rfl, rfl, rfl, rfl, trivial⟩ ?_
      refine QW.then_ ?_
      refine CW.condP rfl (fun hc26 => ?_) (fun hc26 => ?_)
      ·refine CW.seq (CW.region ?_)
       refine RG.vl rfl rfl rfl (Ev.assign rfl rfl) ?_
       refine RG.vl rfl rfl rfl (Ev.assign rfl rfl) ?_
       refine RG.done (QW.then_ (CW.ret (QW.blockR (QW.thenRet (QW.thenRet (QW.blockR ?_))))))
       refine QW.thenRet ?_
       refine QW.ret2 rfl rfl rfl ?_
       have hB := (Ex.tr hR8 hxwl10)
       have he : errOf s l = 2 := by unfold errOf; rw [if_neg (by omega), if_neg (by simpa using hs), if_pos]; intro hh; have := hh b (List.mem_of_getElem? hk); unfold InB at this; omega
       exact ⟨_, by rw [he], fun h => absurd h (by rw [he]; decide), hB⟩
      ·refine CW.skip (QW.blockN (QW.then_ (CW.region ?_)))
       refine RG.vl rfl rfl rfl (Ev.addI rfl rfl rfl (by omega)) ?_
       refine RG.vl rfl rfl rfl (Ev.move rfl rfl) ?_
       refine RG.done ?_
       refine QW.round1 (i + 1) ⟨rfl, trivial⟩ ⟨rfl, rfl, rfl, rfl, trivial⟩ ⟨⟨by omega, fun j b' hj hb' => by rcases Nat.lt_or_ge j i with h | h; exact hall j b' h hb'; obtain rfl : j = i := (by omega); rw [hk] at hb'; injection hb' with hb'; subst hb'; unfold InB; omega⟩, hxwl10⟩ (by omega)
   ·refine CW.exit (QW.thenExit (QW.thenExit (QW.blockHit (QW.then_ (CW.seq ?_)))))
    have hB9 : Ex w wl10 := (Ex.tr hR8 hxwl10)
    have hin : ∀ b ∈ l, InB b := fun b hb => by obtain ⟨j, hj, rfl⟩ := List.getElem_of_mem hb; exact hall j _ (by omega) (List.getElem?_eq_getElem _)
    refine CW.region ?_
    replace hl := (hl.ext hxwl10)
    replace hb1 := (hb1.ext hxwl10)
    have hR27 := (Ex.tr hR8 hxwl10)
    have hR28 := (Ex.tr hR9 hxwl10)
    have hR29 := hxwl10
    refine RG.mkMap (fun i : Int => Value.int .i64 i) rfl rfl rfl rfl (fun gm w30 egm hx30 hb30 => ?_)
    have hle31 : wl10.heap.size ≤ gm := by have := (Ex.rfl_ wl10).size; omega
    have hlt32 : g1 < gm := by have := Blk.lt hb1; omega
    have hE33 := hx30
    refine RG.vl rfl rfl rfl (Ev.assign rfl rfl) ?_
    refine RG.done (QW.then_ (CW.seq (CW.seq (CW.region ?_))))
    refine RG.vl rfl rfl rfl (Ev.move rfl rfl) ?_
    refine RG.vl rfl rfl rfl (Ev.lenL rfl rfl rfl Tryz.underlying24 ((hl.ext hE33))) ?_
    refine RG.vl rfl rfl rfl (Ev.move rfl rfl) ?_
    refine RG.done (QW.then_ (CW.block ?_))
    refine CW.loop1 [(2, _), (8, _), (45, _), (46, _)] ⟨rfl, rfl, rfl, rfl, trivial⟩ (fun (i : Nat) => [(47, .int .i64 i)]) (fun i w' => (i ≤ l.length ∧ Fit s (l.take i) ∧ Mp w' gm (fun i : Int => Value.int .i64 i) (foundOf s (l.take i))) ∧ Ex wl10 w') (fun i => l.length - i) (0) ⟨rfl, trivial⟩ ⟨⟨Nat.zero_le _, fit_nil s, hb30⟩, hE33⟩ ?_
    rintro i wl34 ⟨⟨hi, hfit, hmp⟩, hxwl34⟩
    refine CW.sub (S' := [(47, _), (2, _), (8, _), (45, _), (46, _)]) ⟨rfl, rfl, rfl, rfl, rfl, trivial⟩ ?_
    refine CW.seq (CW.region ?_)
    refine RG.vl rfl rfl rfl (Ev.lss rfl rfl rfl) ?_
    refine RG.done (QW.then_ (CW.seq ?_))
    refine CW.condP rfl (fun hc35 => ?_) (fun hc35 => ?_)
    ·refine CW.skip (QW.then_ (CW.seq (CW.block (CW.seq ?_))))
     obtain ⟨b, hk⟩ : ∃ b, l[i]? = some b := ⟨l[i]'(by omega), List.getElem?_eq_getElem _⟩
     
     refine CW.region ?_
     refine RG.idxL rfl rfl rfl rfl rfl rfl Tryz.underlying24 sz_36 ((hl.ext hxwl34)) (hk) (fun p36 hp36b hp36 => ?_)
     refine RG.vl rfl rfl rfl (Ev.ldAgg rfl rfl Tryz.underlying36 rfl sz_36 rfl (hp36)) ?_
     refine RG.local_ rfl rfl rfl rfl (fun _ => rfl) rfl rfl (fun _ => rfl) inf_36 rfl rfl rfl (fun g37 w37 eg37 hx37 hb37 => ?_)
     have hle38 : wl10.heap.size ≤ g37 := by have := hxwl34.size; omega
     have hle39 : wl34.heap.size ≤ g37 := by have := (Ex.rfl_ wl34).size; omega
     have hlt40 : g1 < g37 := by have := Blk.lt (hb1.ext hxwl34); omega
     have hlt41 : gm < g37 := by have := Mp.lt hmp; omega
     replace hxwl34 := Ex.tr hxwl34 hx37
     have hE42 := hx37
     refine RG.done (QW.then_ (CW.seq ?_))
     have hib := hin b (List.mem_of_getElem? hk)
     obtain ⟨b1, b2, b3, b4, b5, b6⟩ := id hib
     refine CW.region ?_
     refine RG.vl rfl rfl rfl (Ev.fld rfl rfl fld_36_0) ?_
     refine RG.vl rfl rfl rfl (Ev.ldAt rfl rfl Tryz.underlying3 rfl (hb37.cells) (rfl)) ?_
     refine RG.vl rfl rfl rfl (Ev.fld rfl rfl fld_23_1) ?_
     refine RG.vl rfl rfl rfl (Ev.ldAt rfl rfl Tryz.underlying3 rfl ((hb1.ext hxwl34).cells) (rfl)) ?_
     refine RG.vl rfl rfl rfl (Ev.subI rfl rfl rfl (by omega)) ?_
     refine RG.vl rfl rfl rfl (Ev.fld rfl rfl fld_23_3) ?_
     refine RG.vl rfl rfl rfl (Ev.ldAt rfl rfl Tryz.underlying3 rfl ((hb1.ext hxwl34).cells) (rfl)) ?_
     refine RG.vl rfl rfl rfl (Ev.addI rfl rfl rfl (by omega)) ?_
     refine RG.vl rfl rfl rfl (Ev.assign rfl rfl) ?_
     refine RG.done (QW.then_ (CW.seq (CW.seq ?_)))
     refine CW.draw [] (.ex) 12 rfl mixed (fun wd43 hxwd43 => ?_)
     replace hxwl34 := Ex.tr hxwl34 hxwd43
     replace hE42 := Ex.tr hE42 hxwd43
     have hE44 := hxwd43
     refine AG.takeW 0 rfl (by kernel_rfl) (by kernel_rfl) rfl rfl rfl (fun _ => Ev.move rfl rfl) ?_
     refine AG.takeW 1 rfl (by kernel_rfl) (by kernel_rfl) rfl rfl rfl (fun _ => Ev.lss rfl rfl rfl) ?_
     refine AG.takeW 2 rfl (by kernel_rfl) (by kernel_rfl) rfl rfl rfl (fun _ => Ev.move rfl rfl) ?_
     refine AG.split (d := 61) rfl (fun hg45 => ?_) (fun hg45 => ?_)
     ·refine AG.pass 3 rfl (by kernel_rfl) (by kernel_rfl) rfl rfl rfl ?_
      refine AG.pass 4 rfl (by kernel_rfl) (by kernel_rfl) rfl rfl rfl ?_
      refine AG.pass 5 rfl (by kernel_rfl) (by kernel_rfl) rfl rfl rfl ?_
      refine AG.pass 6 rfl (by kernel_rfl) (by kernel_rfl) rfl rfl rfl ?_
      refine AG.pass 7 rfl (by kernel_rfl) (by kernel_rfl) rfl rfl rfl ?_
      refine AG.pass 8 rfl (by kernel_rfl) (by kernel_rfl) rfl rfl rfl ?_
      refine AG.pass 9 rfl (by kernel_rfl) (by kernel_rfl) rfl rfl rfl ?_
      refine AG.pass 10 rfl (by kernel_rfl) (by kernel_rfl) rfl rfl rfl ?_
      refine AG.takeW 11 rfl (by kernel_rfl) (by kernel_rfl) rfl rfl rfl (fun _ => Ev.pickT rfl rfl rfl) ?_
      refine AG.done (by kernel_rfl) ?_
      refine QW.sub (S' := [(2, _), (8, _), (10, _), (11, _), (45, _), (46, _), (47, _), (70, _)]) ⟨rfl, rfl, rfl, rfl, rfl, rfl, rfl, rfl, trivial⟩ ?_
      refine QW.then_ ?_
      refine CW.condT rfl ?_
      refine CW.seq (CW.region ?_)
      refine RG.vl rfl rfl rfl (Ev.assign rfl rfl) ?_
      refine RG.vl rfl rfl rfl (Ev.assign rfl rfl) ?_
      refine RG.done (QW.then_ (CW.ret (QW.thenRet (QW.blockR (QW.thenRet (QW.thenRet ?_))))))
      refine QW.blockR (QW.thenRet ?_)
      refine QW.ret2 rfl rfl rfl ?_
      have hB := (Ex.tr hR27 hxwl34)
      have he : errOf s l = 210 := by unfold errOf; rw [if_neg (by omega), if_neg (by simpa using hs), if_neg (by simpa using hin), if_neg]; exact not_fit0 s l i b hk (plc_bad s b (by omega))
      exact ⟨_, by rw [he], fun h => absurd h (by rw [he]; decide), hB⟩
     ·refine AG.takeW 3 rfl (by kernel_rfl) (by kernel_rfl) rfl rfl rfl (fun _ => Ev.move rfl rfl) ?_
      refine AG.takeW 4 rfl (by kernel_rfl) (by kernel_rfl) rfl rfl rfl (fun _ => Ev.fld rfl rfl fld_23_2) ?_
      refine AG.take 5 rfl (by kernel_rfl) (by kernel_rfl) rfl rfl rfl (fun wq hq => Ev.ldAt rfl rfl Tryz.underlying3 rfl (((hb1.ext hxwl34).ext hq).cells) (rfl)) ?_
      refine AG.takeW 6 rfl (by kernel_rfl) (by kernel_rfl) rfl rfl rfl (fun _ => Ev.remI rfl rfl rfl (by omega)) ?_
      refine AG.takeW 7 rfl (by kernel_rfl) (by kernel_rfl) rfl rfl rfl (fun _ => Ev.fld rfl rfl fld_23_3) ?_
      refine AG.take 8 rfl (by kernel_rfl) (by kernel_rfl) rfl rfl rfl (fun wq hq => Ev.ldAt rfl rfl Tryz.underlying3 rfl (((hb1.ext hxwl34).ext hq).cells) (rfl)) ?_
      refine AG.takeW 9 rfl (by kernel_rfl) (by kernel_rfl) rfl rfl rfl (fun _ => Ev.mulI rfl rfl rfl (by omega)) ?_
      refine AG.takeW 10 rfl (by kernel_rfl) (by kernel_rfl) rfl rfl rfl (fun _ => Ev.gtr rfl rfl rfl) ?_
      refine AG.takeW 11 rfl (by kernel_rfl) (by kernel_rfl) rfl rfl rfl (fun _ => Ev.pickF rfl rfl rfl) ?_
      refine AG.done (by kernel_rfl) ?_
      refine QW.sub (S' := [(2, _), (8, _), (10, _), (11, _), (45, _), (46, _), (47, _), (70, _)]) ⟨rfl, rfl, rfl, rfl, rfl, rfl, rfl, rfl, trivial⟩ ?_
      refine QW.then_ ?_
      refine CW.condP rfl (fun hc46 => ?_) (fun hc46 => ?_)
      ·refine CW.seq (CW.region ?_)
       refine RG.vl rfl rfl rfl (Ev.assign rfl rfl) ?_
       refine RG.vl rfl rfl rfl (Ev.assign rfl rfl) ?_
       refine RG.done (QW.then_ (CW.ret (QW.thenRet (QW.blockR (QW.thenRet (QW.thenRet ?_))))))
       refine QW.blockR (QW.thenRet ?_)
       refine QW.ret2 rfl rfl rfl ?_
       have hB := (Ex.tr hR27 hxwl34)
       have he : errOf s l = 210 := by unfold errOf; rw [if_neg (by omega), if_neg (by simpa using hs), if_neg (by simpa using hin), if_neg]; exact not_fit0 s l i b hk (plc_bad s b (by omega))
       exact ⟨_, by rw [he], fun h => absurd h (by rw [he]; decide), hB⟩
      ·refine CW.skip (QW.then_ (CW.seq (CW.region ?_)))
       refine RG.vl rfl rfl rfl (Ev.move rfl rfl) ?_
       refine RG.vl rfl rfl rfl (Ev.fld rfl rfl fld_23_2) ?_
       refine RG.vl rfl rfl rfl (Ev.ldAt rfl rfl Tryz.underlying3 rfl ((hb1.ext hxwl34).cells) (rfl)) ?_
       refine RG.vl rfl rfl rfl (Ev.quoI rfl rfl rfl (by omega)) ?_
       refine RG.vl rfl rfl rfl (Ev.assign rfl rfl) ?_
       refine RG.done (QW.then_ (CW.seq (CW.seq (CW.region ?_))))
       refine RG.vl rfl rfl rfl (Ev.move rfl rfl) ?_
       refine RG.vl rfl rfl rfl (Ev.move rfl rfl) ?_
       refine RG.vl rfl rfl rfl ((Ev.lookOk keyI rfl rfl rfl (hmp.ext hE42) Tryz.underlying102 Tryz.underlying3 inf_36).conv (found_look s (l.take i) _ hfit.1)) ?_
       refine RG.vl rfl rfl rfl (Ev.move rfl rfl) ?_
       refine RG.vl rfl rfl rfl (Ev.extract rfl rfl rfl) ?_
       refine RG.vl rfl rfl rfl (Ev.extract rfl rfl rfl) ?_
       refine RG.local_ rfl rfl rfl rfl (fun _ => rfl) rfl rfl (fun _ => rfl) inf_36 rfl rfl rfl (fun g47 w47 eg47 hx47 hb47 => ?_)
       have hle48 : wl10.heap.size ≤ g47 := by have := hxwl34.size; omega
       have hle49 : wl34.heap.size ≤ g47 := by have := hE42.size; omega
       have hle50 : w37.heap.size ≤ g47 := by have := hE44.size; omega
       have hle51 : wd43.heap.size ≤ g47 := by have := (Ex.rfl_ wd43).size; omega
       have hlt52 : g1 < g47 := by have := Blk.lt (hb1.ext hxwl34); omega
       have hlt53 : gm < g47 := by have := Mp.lt (hmp.ext hE42); omega
       have hlt54 : g37 < g47 := by have := Blk.lt (hb37.ext hE44); omega
       replace hxwl34 := Ex.tr hxwl34 hx47
       replace hE42 := Ex.tr hE42 hx47
       replace hE44 := Ex.tr hE44 hx47
       refine RG.vl rfl rfl rfl (Ev.assign rfl rfl) ?_
       refine RG.done (QW.then_ (CW.seq (CW.region ?_)))
       refine RG.vl rfl rfl rfl (Ev.move rfl rfl) ?_
       refine RG.vl rfl rfl rfl (Ev.move rfl rfl) ?_
       refine RG.splitB (d := 82) rfl (fun hg55 => ?_) (fun hg55 => ?_)
       ·refine RG.pass rfl rfl rfl ?_
        refine RG.pass rfl rfl rfl ?_
        refine RG.pass rfl rfl rfl ?_
        refine RG.pass rfl rfl rfl ?_
        refine RG.vl rfl rfl rfl (Ev.pickT rfl rfl rfl) ?_
        refine RG.done ?_
        refine QW.sub (S' := [(2, _), (8, _), (10, _), (12, _), (45, _), (46, _), (47, _), (87, _)]) ⟨rfl, rfl, rfl, rfl, rfl, rfl, rfl, rfl, trivial⟩ ?_
        refine QW.then_ ?_
        refine CW.condT rfl ?_
        refine CW.seq (CW.region ?_)
        refine RG.vl rfl rfl rfl (Ev.assign rfl rfl) ?_
        refine RG.vl rfl rfl rfl (Ev.assign rfl rfl) ?_
        refine RG.done (QW.then_ (CW.ret (QW.thenRet (QW.blockR (QW.thenRet (QW.thenRet ?_))))))
        refine QW.blockR (QW.thenRet ?_)
        refine QW.ret2 rfl rfl rfl ?_
        have hB := (Ex.tr hR27 hxwl34)
        have he : errOf s l = 210 := by unfold errOf; rw [if_neg (by omega), if_neg (by simpa using hs), if_neg (by simpa using hin), if_neg]; obtain ⟨j, b2, hj, hb2, he2⟩ := found_hit s l i _ hfit.1 (by rw [fbo_iff s _ _ hfit.1]; assumption); exact not_fit s l i j b b2 hk hb2 hj (by rw [he2]; exact plc_good s b (by omega) (by omega) (fun hfar => absurd ((plc_range s b2 _ hs he2).2) (by omega)))
        exact ⟨_, by rw [he], fun h => absurd h (by rw [he]; decide), hB⟩
       ·refine RG.vl rfl rfl rfl (Ev.move rfl rfl) ?_
        refine RG.vl rfl rfl rfl (Ev.fld rfl rfl fld_23_0) ?_
        refine RG.vl rfl rfl rfl (Ev.ldAt rfl rfl Tryz.underlying3 rfl ((hb1.ext hxwl34).cells) (rfl)) ?_
        refine RG.vl rfl rfl rfl (Ev.geq rfl rfl rfl) ?_
        refine RG.vl rfl rfl rfl (Ev.pickF rfl rfl rfl) ?_
        refine RG.done ?_
        refine QW.sub (S' := [(2, _), (8, _), (10, _), (12, _), (45, _), (46, _), (47, _), (87, _)]) ⟨rfl, rfl, rfl, rfl, rfl, rfl, rfl, rfl, trivial⟩ ?_
        refine QW.then_ ?_
        refine CW.condP rfl (fun hc56 => ?_) (fun hc56 => ?_)
        ·refine CW.seq (CW.region ?_)
         refine RG.vl rfl rfl rfl (Ev.assign rfl rfl) ?_
         refine RG.vl rfl rfl rfl (Ev.assign rfl rfl) ?_
         refine RG.done (QW.then_ (CW.ret (QW.thenRet (QW.blockR (QW.thenRet (QW.thenRet ?_))))))
         refine QW.blockR (QW.thenRet ?_)
         refine QW.ret2 rfl rfl rfl ?_
         have hB := (Ex.tr hR27 hxwl34)
         have he : errOf s l = 210 := by unfold errOf; rw [if_neg (by omega), if_neg (by simpa using hs), if_neg (by simpa using hin), if_neg]; exact not_fit0 s l i b hk (plc_far s b (by omega))
         exact ⟨_, by rw [he], fun h => absurd h (by rw [he]; decide), hB⟩
        ·refine CW.skip (QW.then_ ?_)
         obtain ⟨hno, hne⟩ := found_miss s l i _ hfit.1 (by rw [fbo_iff s _ _ hfit.1]; assumption)
         have hpg := plc_good s b (by omega) (by omega) (by omega)
         refine CW.region ?_
         refine RG.vl rfl rfl rfl (Ev.move rfl rfl) ?_
         refine RG.vl rfl rfl rfl (Ev.move rfl rfl) ?_
         refine RG.vl rfl rfl rfl (Ev.ldAgg rfl rfl Tryz.underlying36 rfl sz_36 rfl ((hb37.ext hE44).cells)) ?_
         refine RG.mapPut keyI rfl rfl (.inl rfl) rfl rfl rfl Tryz.underlying102 Tryz.underlying3 (hmp.ext hE42) (hno) (fun wm57 hwm57 hbwm57 => ?_)
         replace hb37 := Blk.far (hb37.ext hE44) hwm57 (by omega)
         replace hb47 := Blk.far hb47 hwm57 (by omega)
         replace hxwl34 := Wr.below hxwl34 hwm57 hle31
         refine RG.done (QW.blockN (QW.then_ (CW.region ?_)))
         refine RG.vl rfl rfl rfl (Ev.addI rfl rfl rfl (by omega)) ?_
         refine RG.vl rfl rfl rfl (Ev.move rfl rfl) ?_
         refine RG.done ?_
         refine QW.round1 (i + 1) ⟨rfl, trivial⟩ ⟨rfl, rfl, rfl, rfl, trivial⟩ ⟨⟨by omega, by rw [take_snoc l i b hk, fit_snoc]; exact ⟨hfit, by rw [hpg]; rfl, fun b' hb' => by rw [hpg]; exact hne b' hb'⟩, by rw [found_snoc s l i b _ hk hpg]; exact hbwm57⟩, hxwl34⟩ (by omega)
    ·refine CW.exit (QW.thenExit (QW.thenExit (QW.blockHit (QW.then_ (CW.seq (CW.region ?_))))))
     refine RG.vl rfl rfl rfl (Ev.move rfl rfl) ?_
     refine RG.vl rfl rfl rfl (Ev.assign rfl rfl) ?_
     refine RG.vl rfl rfl rfl (Ev.assign rfl rfl) ?_
     refine RG.done (QW.then_ (CW.ret ?_))
     refine QW.ret2 rfl rfl rfl ?_
     have hB := (Ex.tr hR27 hxwl34)
     have hi2 : l.take i = l := List.take_of_length_le (by omega)
     rw [hi2] at hfit hmp
     have he : errOf s l = 0 := (err0_iff s l).2 ⟨by omega, hs, hin, hfit⟩
     exact ⟨_, by rw [he], fun _ => ⟨gm, rfl, by have := hB9.size; omega, hmp⟩, hB⟩

end Go.Proofs.YtgjnchjkjdnidaaGreat

/- Walks (HG). Written by program. -/
namespace Go.Proofs.YtgjnchjkjdnidaaGreat
open Go.RowKit
set_option maxRecDepth 100000 in
set_option maxHeartbeats 1000000 in
theorem hread_ret (s : Su) (u : Value) (l : List Br) (w : World) (hl : RdL w 3 Br.c u l) (hlen : l.length ≤ 1000) :
  Ret Tryz.prog 19 [s.v, u] w (fun v w' => v = .tuple #[.string ⟨(readOf s l).toArray⟩, .int .i64 (errOf s l)] ∧ Ex w w') := by
 have hB0 : Ex w w := Ex.rfl_ _
 refine Ret.of Tryz.func19 rfl Tryz.ntmps19 rfl ?_
 refine CW.seq (CW.region ?_)
 refine RG.box rfl rfl rfl rfl rfl (fun g1 w1 eg1 hx1 hb1 => ?_)
 have hle2 : w.heap.size ≤ g1 := by have := (Ex.rfl_ w).size; omega
 have hE3 := hx1
 refine RG.vl rfl rfl rfl (Ev.assign rfl rfl) ?_
 refine RG.vl rfl rfl rfl (Ev.assign rfl rfl) ?_
 refine RG.done (QW.then_ (CW.seq (CW.region ?_)))
 refine RG.vl rfl rfl rfl (Ev.ldAgg rfl rfl Tryz.underlying23 rfl sz_23 rfl (hb1.cells)) ?_
 refine RG.vl rfl rfl rfl (Ev.move rfl rfl) ?_
 refine RG.call rfl rfl rfl rfl rfl rfl rfl en_47 (places_ret s _ l _ ((hl.ext hE3)) hlen) ?_
 rintro _ w4 ⟨mp4, rfl, hmap4, hx4⟩
 replace hE3 := Ex.tr hE3 hx4
 have hE5 := hx4
 refine RG.vl rfl rfl rfl (Ev.move rfl rfl) ?_
 refine RG.vl rfl rfl rfl (Ev.extract rfl rfl rfl) ?_
 refine RG.vl rfl rfl rfl (Ev.extract rfl rfl rfl) ?_
 refine RG.vl rfl rfl rfl (Ev.assign rfl rfl) ?_
 refine RG.vl rfl rfl rfl (Ev.assign rfl rfl) ?_
 refine RG.done (QW.then_ (CW.seq (CW.seq (CW.region ?_))))
 refine RG.vl rfl rfl rfl (Ev.move rfl rfl) ?_
 refine RG.vl rfl rfl rfl (Ev.neI rfl rfl rfl) ?_
 refine RG.done (QW.then_ ?_)
 refine CW.condP rfl (fun hc6 => ?_) (fun hc6 => ?_)
 ·refine CW.seq (CW.region ?_)
  refine RG.vl rfl rfl rfl (Ev.move rfl rfl) ?_
  refine RG.vl rfl rfl rfl (Ev.assign rfl rfl) ?_
  refine RG.vl rfl rfl rfl (Ev.assign rfl rfl) ?_
  refine RG.done ?_
  refine QW.sub (S' := [(2, _), (4, _), (5, _), (6, _)]) ⟨rfl, rfl, rfl, rfl, trivial⟩ ?_
  refine QW.then_ (CW.ret (QW.thenRet ?_))
  refine QW.ret2 rfl rfl rfl ?_
  have hB := (Ex.tr hB0 hE3)
  exact ⟨by unfold readOf; rw [if_neg (by omega)], hB⟩
 ·refine CW.skip (QW.then_ (CW.seq ?_))
  have he0 : errOf s l = 0 := by omega
  obtain ⟨gm, rfl, hgm, hmp⟩ := hmap4 he0
  obtain ⟨hl4, hs, hin, hfit⟩ := (err0_iff s l).1 he0
  obtain ⟨a1, a2, a3, a4, a5, a6, a7, a8, a9, a10, a11⟩ := id hs
  refine CW.region ?_
  refine RG.vl rfl rfl rfl (Ev.ldAgg rfl rfl Tryz.underlying23 rfl sz_23 rfl ((hb1.ext hE5).cells)) ?_
  refine RG.call rfl rfl rfl rfl rfl rfl rfl en_48 (halfBy_ret s _) ?_
  rintro _ w7 ⟨gc7, rfl, hle7, hcb7, hx7⟩
  replace hE3 := Ex.tr hE3 hx7
  replace hE5 := Ex.tr hE5 hx7
  have hE8 := hx7
  refine RG.call rfl rfl rfl rfl rfl rfl rfl en_49 (letters_ret _) ?_
  rintro _ w9 ⟨rfl, hx9⟩
  replace hE3 := Ex.tr hE3 hx9
  replace hE5 := Ex.tr hE5 hx9
  replace hE8 := Ex.tr hE8 hx9
  have hE10 := hx9
  refine RG.alloc_ rfl rfl rfl rfl inf_108 (fun g11 w11 eg11 hx11 hb11 => ?_)
  have hle12 : w.heap.size ≤ g11 := by have := hE3.size; omega
  have hle13 : w1.heap.size ≤ g11 := by have := hE5.size; omega
  have hle14 : w4.heap.size ≤ g11 := by have := hE8.size; omega
  have hle15 : w7.heap.size ≤ g11 := by have := hE10.size; omega
  have hle16 : w9.heap.size ≤ g11 := by have := (Ex.rfl_ w9).size; omega
  have hlt17 : g1 < g11 := by have := Blk.lt (hb1.ext hE5); omega
  have hlt18 : gm < g11 := by have := Mp.lt (hmp.ext hE8); omega
  have hlt19 : gc7 < g11 := by have := Blk.lt (hcb7.ext hE10); omega
  replace hE3 := Ex.tr hE3 hx11
  replace hE5 := Ex.tr hE5 hx11
  replace hE8 := Ex.tr hE8 hx11
  replace hE10 := Ex.tr hE10 hx11
  refine RG.vl rfl rfl rfl (Ev.assign rfl rfl) ?_
  refine RG.stAll (g := g11) rfl rfl rfl rfl rfl sz_108 rfl rfl rfl hb11 (fun ws20 hwws20 hbws20 => ?_)
  replace hE3 := Wr.below hE3 hwws20 hle12
  replace hE5 := Wr.below hE5 hwws20 hle13
  replace hE8 := Wr.below hE8 hwws20 hle14
  replace hE10 := Wr.below hE10 hwws20 hle15
  refine RG.done ?_
  refine QW.sub (S' := [(2, _), (4, _), (5, _), (6, _), (8, _), (9, _)]) ⟨rfl, rfl, rfl, rfl, rfl, rfl, trivial⟩ ?_
  refine QW.then_ (CW.seq (CW.region ?_))
  refine RG.vl rfl rfl rfl (Ev.fld rfl rfl fld_23_0) ?_
  refine RG.vl rfl rfl rfl (Ev.ldAt rfl rfl Tryz.underlying3 rfl ((hb1.ext hE5).cells) (rfl)) ?_
  replace hl := (hl.ext hE3)
  replace hb1 := (hb1.ext hE5)
  replace hmp := (hmp.ext hE8)
  replace hcb7 := (hcb7.ext hE10)
  have hR21 := (Ex.tr hB0 hE3)
  have hR22 := hE5
  have hR23 := hE8
  have hR24 := hE10
  refine RG.make1 (m := s.pl.toNat) rfl rfl rfl rfl rfl rfl (by omega) Tryz.underlying58 inf_5 rfl (by omega) (by simp only [maxLen]; omega) (fun gT w25 egT hx25 hb25 => ?_)
  have hle26 : ws20.heap.size ≤ gT := by have := (Ex.rfl_ ws20).size; omega
  have hlt27 : g1 < gT := by have := Blk.lt hb1; omega
  have hlt28 : gm < gT := by have := Mp.lt hmp; omega
  have hlt29 : gc7 < gT := by have := Blk.lt hcb7; omega
  have hlt30 : g11 < gT := by have := Blk.lt hbws20; omega
  have hE31 := hx25
  refine RG.vl rfl rfl rfl (Ev.assign rfl rfl) ?_
  refine RG.done (QW.then_ (CW.seq (CW.seq (CW.region ?_))))
  refine RG.vl rfl rfl rfl (Ev.move rfl rfl) ?_
  refine RG.vl rfl rfl rfl (Ev.lenSlice rfl rfl rfl Tryz.underlying58) ?_
  refine RG.vl rfl rfl rfl (Ev.move rfl rfl) ?_
  refine RG.done (QW.then_ (CW.block ?_))
  refine CW.loop1 [(4, _), (5, _), (6, _), (8, _), (9, _), (10, _), (30, _)] ⟨rfl, rfl, rfl, rfl, rfl, rfl, rfl, trivial⟩ (fun (k : Nat) => [(31, .int .i64 k)]) (fun k w' => (k ≤ s.pl.toNat ∧ Blk w' gT 5 (txt s l k)) ∧ Ex ws20 w') (fun k => s.pl.toNat - k) (0) ⟨rfl, trivial⟩ ⟨⟨Nat.zero_le _, by rw [← txt_zero]; exact hb25⟩, hE31⟩ ?_
  rintro k wl32 ⟨⟨hkp, hT⟩, hxwl32⟩
  refine CW.sub (S' := [(31, _), (4, _), (5, _), (6, _), (8, _), (9, _), (10, _), (30, _)]) ⟨rfl, rfl, rfl, rfl, rfl, rfl, rfl, rfl, trivial⟩ ?_
  refine CW.seq (CW.region ?_)
  refine RG.vl rfl rfl rfl (Ev.lss rfl rfl rfl) ?_
  refine RG.done (QW.then_ (CW.seq ?_))
  refine CW.condP rfl (fun hc33 => ?_) (fun hc33 => ?_)
  ·refine CW.skip (QW.then_ (CW.seq (CW.block (CW.seq (CW.region ?_)))))
   refine RG.vl rfl rfl rfl (Ev.move rfl rfl) ?_
   refine RG.vl rfl rfl rfl (Ev.assign rfl rfl) ?_
   refine RG.done (QW.then_ (CW.seq (CW.region ?_)))
   refine RG.vl rfl rfl rfl (Ev.move rfl rfl) ?_
   refine RG.vl rfl rfl rfl (Ev.move rfl rfl) ?_
   refine RG.vl rfl rfl rfl (Ev.idxA (i := 2) rfl rfl rfl Tryz.underlying108 sz_107 (by omega)) ?_
   refine RG.vl rfl rfl rfl (Ev.idxA (i := 2) rfl rfl rfl Tryz.underlying107 sz_5 (by omega)) ?_
   refine RG.vl rfl rfl rfl (Ev.ldAA rfl rfl Tryz.underlying5 rfl ((hbws20.ext hxwl32).cells) (rfl)) ?_
   refine RG.vl rfl rfl rfl (Ev.idxN rfl rfl rfl Tryz.underlying58 sz_5 (by omega)) ?_
   refine RG.st (g := gT) (k := _) rfl rfl rfl rfl rfl sz_5 rfl hT (by rw [Nat.blt_eq, txt_len]; omega) (fun ws34 hwws34 hbws34 => ?_)
   replace hxwl32 := Wr.below hxwl32 hwws34 hle26
   refine RG.done (QW.then_ (CW.seq (CW.region ?_)))
   refine RG.vl rfl rfl rfl (Ev.move rfl rfl) ?_
   refine RG.vl rfl rfl rfl (Ev.move rfl rfl) ?_
   refine RG.vl rfl rfl rfl ((Ev.lookOk keyI rfl rfl rfl (hmp.ext hxwl32) Tryz.underlying102 Tryz.underlying3 inf_36).conv (found_look s l _ hfit.1)) ?_
   refine RG.vl rfl rfl rfl (Ev.move rfl rfl) ?_
   refine RG.vl rfl rfl rfl (Ev.extract rfl rfl rfl) ?_
   refine RG.vl rfl rfl rfl (Ev.extract rfl rfl rfl) ?_
   refine RG.local_ rfl rfl rfl rfl (fun _ => rfl) rfl rfl (fun _ => rfl) inf_36 rfl rfl rfl (fun g35 w35 eg35 hx35 hb35 => ?_)
   have hle36 : ws20.heap.size ≤ g35 := by have := hxwl32.size; omega
   have hle37 : ws34.heap.size ≤ g35 := by have := (Ex.rfl_ ws34).size; omega
   have hlt38 : g1 < g35 := by have := Blk.lt (hb1.ext hxwl32); omega
   have hlt39 : gm < g35 := by have := Mp.lt (hmp.ext hxwl32); omega
   have hlt40 : gc7 < g35 := by have := Blk.lt (hcb7.ext hxwl32); omega
   have hlt41 : g11 < g35 := by have := Blk.lt (hbws20.ext hxwl32); omega
   have hlt42 : gT < g35 := by have := Blk.lt hbws34; omega
   replace hxwl32 := Ex.tr hxwl32 hx35
   have hE43 := hx35
   refine RG.vl rfl rfl rfl (Ev.assign rfl rfl) ?_
   refine RG.done ?_
   refine QW.sub (S' := [(4, _), (5, _), (6, _), (8, _), (9, _), (10, _), (11, _), (12, _), (13, _), (30, _), (31, _)]) ⟨rfl, rfl, rfl, rfl, rfl, rfl, rfl, rfl, rfl, rfl, rfl, trivial⟩ ?_
   refine QW.then_ (CW.seq (CW.region ?_))
   refine RG.vl rfl rfl rfl (Ev.move rfl rfl) ?_
   refine RG.done (QW.then_ ?_)
   refine CW.cond rfl (fun hc44 => ?_) (fun hc44 => ?_)
   ·refine CW.draw [] (.row gT) 15 rfl mixed (fun wd45 hxwd45 => ?_)
    replace hxwl32 := Ex.tr hxwl32 hxwd45
    replace hE43 := Ex.tr hE43 hxwd45
    have hE46 := hxwd45
    refine AG.takeW 0 rfl (by kernel_rfl) (by kernel_rfl) rfl rfl rfl (fun _ => Ev.move rfl rfl) ?_
    refine AG.takeW 1 rfl (by kernel_rfl) (by kernel_rfl) rfl rfl rfl (fun _ => Ev.move rfl rfl) ?_
    refine AG.takeW 2 rfl (by kernel_rfl) (by kernel_rfl) rfl rfl rfl (fun _ => Ev.move rfl rfl) ?_
    refine AG.takeW 3 rfl (by kernel_rfl) (by kernel_rfl) rfl rfl rfl (fun _ => Ev.fld rfl rfl fld_36_1) ?_
    refine AG.take 4 rfl (by kernel_rfl) (by kernel_rfl) rfl rfl rfl (fun wq hq => Ev.ldAt rfl rfl Tryz.underlying3 rfl ((Blk.grown (hb35.ext hE46) hq (by simp; omega)).cells) (rfl)) ?_
    refine AG.takeW 6 rfl (by kernel_rfl) (by kernel_rfl) rfl rfl rfl (fun _ => Ev.move rfl rfl) ?_
    refine AG.takeW 7 rfl (by kernel_rfl) (by kernel_rfl) rfl rfl rfl (fun _ => Ev.fld rfl rfl fld_36_2) ?_
    refine AG.take 8 rfl (by kernel_rfl) (by kernel_rfl) rfl rfl rfl (fun wq hq => Ev.ldAt rfl rfl Tryz.underlying3 rfl ((Blk.grown (hb35.ext hE46) hq (by simp; omega)).cells) (rfl)) ?_
    refine AG.only 5 rfl (by kernel_rfl) ?_
    refine RG.call rfl rfl rfl rfl rfl rfl rfl en_88 (half_ret s _ gc7 _ (hcb7.ext hxwl32)) ?_
    rintro _ w48 ⟨rfl, hx48⟩
    replace hxwl32 := Ex.tr hxwl32 hx48
    replace hE43 := Ex.tr hE43 hx48
    replace hE46 := Ex.tr hE46 hx48
    have hE49 := hx48
    refine RG.done ?_
    refine QW.an (fun _ => Rr.of_ex hE49) ?_
    refine AG.takeW 10 rfl (by kernel_rfl) (by kernel_rfl) rfl rfl rfl (fun _ => Ev.idxA rfl rfl rfl Tryz.underlying108 sz_107 (half_lt _ _)) ?_
    refine AG.only 9 rfl (by kernel_rfl) ?_
    refine RG.call rfl rfl rfl rfl rfl rfl rfl en_88 (half_ret s _ gc7 _ (hcb7.ext hxwl32)) ?_
    rintro _ w51 ⟨rfl, hx51⟩
    replace hxwl32 := Ex.tr hxwl32 hx51
    replace hE43 := Ex.tr hE43 hx51
    replace hE46 := Ex.tr hE46 hx51
    replace hE49 := Ex.tr hE49 hx51
    have hE52 := hx51
    refine RG.done ?_
    refine QW.an (fun _ => Rr.of_ex hE52) ?_
    refine AG.takeW 11 rfl (by kernel_rfl) (by kernel_rfl) rfl rfl rfl (fun _ => Ev.idxA rfl rfl rfl Tryz.underlying107 sz_5 (half_lt _ _)) ?_
    refine AG.take 12 rfl (by kernel_rfl) (by kernel_rfl) rfl rfl rfl (fun wq hq => Ev.ldAA rfl rfl Tryz.underlying5 rfl ((Blk.grown (hbws20.ext hxwl32) hq (by simp; omega)).cells) (letter_tbl s _ (by omega))) ?_
    refine AG.takeW 13 rfl (by kernel_rfl) (by kernel_rfl) rfl rfl rfl (fun _ => Ev.idxN rfl rfl rfl Tryz.underlying58 sz_5 (by omega)) ?_
    refine AG.only 14 rfl (by kernel_rfl) ?_
    refine RG.st (g := gT) (k := _) rfl rfl rfl rfl rfl sz_5 rfl (hbws34.ext hE43) (by rw [Nat.blt_eq, List.length_set, txt_len]; omega) (fun ws54 hwws54 hbws54 => ?_)
    replace hb35 := Blk.far (hb35.ext hE46) hwws54 (by omega)
    replace hxwl32 := Wr.below hxwl32 hwws54 hle26
    refine RG.done ?_
    refine QW.an (fun _ => Rr.of_wr hwws54) ?_
    refine AG.done (by kernel_rfl) ?_
    refine QW.sub (S' := [(4, _), (5, _), (6, _), (8, _), (9, _), (10, _), (30, _), (31, _)]) ⟨rfl, rfl, rfl, rfl, rfl, rfl, rfl, rfl, trivial⟩ ?_
    refine QW.blockN (QW.then_ (CW.region ?_))
    refine RG.vl rfl rfl rfl (Ev.addI rfl rfl rfl (by omega)) ?_
    refine RG.vl rfl rfl rfl (Ev.move rfl rfl) ?_
    refine RG.done ?_
    refine QW.round1 (k + 1) ⟨rfl, trivial⟩ ⟨rfl, rfl, rfl, rfl, rfl, rfl, rfl, trivial⟩ ⟨⟨by omega, by rw [← txt_set2 s l k (.int .u8 63) (.int .u8 (letter s (fb s l k)).toNat) (by rw [(letterAt_fb s l k (by assumption)).1])]; exact hbws54⟩, hxwl32⟩ (by omega)
   ·refine CW.skip (QW.blockN (QW.then_ (CW.region ?_)))
    refine RG.vl rfl rfl rfl (Ev.addI rfl rfl rfl (by omega)) ?_
    refine RG.vl rfl rfl rfl (Ev.move rfl rfl) ?_
    refine RG.done ?_
    refine QW.round1 (k + 1) ⟨rfl, trivial⟩ ⟨rfl, rfl, rfl, rfl, rfl, rfl, rfl, trivial⟩ ⟨⟨by omega, by rw [← txt_set s l k (.int .u8 63) (by rw [letterAt_no s l k (by assumption)]; rfl)]; exact (hbws34.ext hE43)⟩, hxwl32⟩ (by omega)
  ·refine CW.exit (QW.thenExit (QW.thenExit (QW.blockHit (QW.then_ (CW.seq ?_)))))
   obtain rfl : k = s.pl.toNat := by omega
   have hT9 := txt_rd s l hT a2
   refine CW.region ?_
   refine RG.vl rfl rfl rfl (Ev.move rfl rfl) ?_
   refine RG.vl rfl rfl rfl (Ev.toStr rfl rfl Tryz.underlying58 Tryz.underlying5 Tryz.underlying9 (hT9)) ?_
   refine RG.vl rfl rfl rfl (Ev.assign rfl rfl) ?_
   refine RG.vl rfl rfl rfl (Ev.assign rfl rfl) ?_
   refine RG.done (QW.then_ (CW.ret ?_))
   refine QW.ret2 rfl rfl rfl ?_
   have hB := (Ex.tr hR21 hxwl32)
   exact ⟨by unfold readOf; rw [if_pos he0, he0], hB⟩

end Go.Proofs.YtgjnchjkjdnidaaGreat

/- Chapter 21, plain: what is drawn is read. -/
namespace Go.Proofs.YtgjnchjkjdnidaaGreat

end Go.Proofs.YtgjnchjkjdnidaaGreat

/- Chapter 21, plain: bars that read as a text; one bar taken away, doubled, moved, put between. -/
namespace Go.Proofs.YtgjnchjkjdnidaaGreat

structure Reads (s : Su) (l : List Br) (t : List UInt8) : Prop where
  tl : (t.length : Int) = s.pl
  ll : l.length ≤ 400
  inb : ∀ b ∈ l, InB b
  fit : Fit s l
  has : ∀ b ∈ l, ∃ (j : Nat) (c : UInt8), plc s b = some (j : Int) ∧ t[j]? = some c ∧ letter s b = c
  all : ∀ (j : Nat) (c : UInt8), t[j]? = some c → c ≠ 63 → ∃ b ∈ l, plc s b = some (j : Int)
def less (l : List Br) (k : Nat) : List Br := l.take k ++ l.drop (k + 1)
end Go.Proofs.YtgjnchjkjdnidaaGreat

/- Scan and Draw as they are told; what is rejected. -/
namespace Go.Proofs.YtgjnchjkjdnidaaGreat
open Go.RowKit
abbrev encTx (t : List UInt8) : List Value := [.string ⟨t.toArray⟩]
def ScR (s : Su) (l : List Br) (x : List UInt8) (b : Bool) (es er : List Nat) (e : Int) : Prop :=
  (s.pl ≠ 64 ∧ e = 2 ∧ x = [] ∧ b = false ∧ es = [] ∧ er = []) ∨ (s.pl = 64 ∧ errOf s l ≠ 0 ∧ e = errOf s l ∧ x = [] ∧ b = false ∧ es = [] ∧ er = []) ∨ (s.pl = 64 ∧ errOf s l = 0 ∧ RdR (readOf s l) x b es er e)
def DrR (s : Su) (t : List UInt8) (l : List Br) (e : Int) : Prop :=
  (errW t ≠ 0 ∧ e = errW t ∧ l = []) ∨ (errW t = 0 ∧ s.pl ≠ 64 ∧ e = 2 ∧ l = []) ∨ (errW t = 0 ∧ s.pl = 64 ∧ ∃ x, WrR t x ∧ e = drawErr s x ∧ l = drawOf s x)
def NoRd (x : List UInt8) (e0 : Int) : Prop := ∀ (t : List UInt8) (b : Bool) (es er : List Nat) (e : Int), RdR x t b es er e → e = e0 ∧ t = [] ∧ b = false ∧ es = [] ∧ er = []
def badT (T : List UInt8) (a : Nat) : Nat → List UInt8
  | 0 => T ++ [84]
  | 1 => T.take 63
  | 2 => (T.take a ++ [120]) ++ T.drop (a + 1)
  | 3 => [63] ++ T.drop 1
  | 4 => [65, 70] ++ T.drop 2
  | 5 => T.take 63 ++ [84]
  | _ => []
def badE (q : Nat) : Int := if q = 3 ∨ q = 4 ∨ q = 5 then 200 else 2
abbrev noPays : List (List UInt8) := [[97], [49, 32], [45, 49], [49, 46], [0], [49, 255], [120]]
abbrev longPay : List UInt8 := [49, 50, 51, 52, 53, 54, 55, 56, 57, 48, 49, 50, 51, 52, 53, 54, 55, 56, 57, 48, 49, 50, 51, 52, 53, 54, 55, 56, 57]
def NoS (s : Su) (l : List Br) (e0 : Int) : Prop := ∀ (t : List UInt8) (b : Bool) (es er : List Nat) (e : Int), ScR s l t b es er e → e = e0 ∧ t = [] ∧ b = false ∧ es = [] ∧ er = []
theorem wr_len {t x : List UInt8} (h : WrR t x) : x.length ≤ 64 := by
  by_cases h0 : errW t = 0
  · obtain ⟨c, hc, rfl⟩ := h.1 h0
    rw [barsT_len, enc20 hc]; omega
  · rw [h.2 h0]; simp
end Go.Proofs.YtgjnchjkjdnidaaGreat

/- What is scanned and drawn, by the program and by the reference. -/
namespace Go.Proofs.YtgjnchjkjdnidaaGreat
open Go.RowKit
theorem take_mor2 {α : Type} (l : List α) (i : Nat) (b : α) (h : l[i]? = some b) : l.take (i + 1) = l.take i ++ [b] := by
  rw [List.take_add_one, h]; rfl
def mkBr (x : {xs : List Int // xs.length = 3}) : Br := ⟨x.1.getD 0 0, x.1.getD 1 0, x.1.getD 2 0⟩
theorem mkBr_c (x : {xs : List Int // xs.length = 3}) : (mkBr x).c = x.1.map (.int .i64) := by
  obtain ⟨xs, h⟩ := x
  match xs, h with
  | [a, b, c], _ => rfl
def ScQ (s : Su) (l : List Br) (x : List UInt8) (b : Bool) (es er : List Nat) (e : Int) : Prop :=
  (s.pl ≠ 64 ∧ e = 2 ∧ x = [] ∧ b = false ∧ es = [] ∧ er = []) ∨ (s.pl = 64 ∧ errOf s l ≠ 0 ∧ e = errOf s l ∧ x = [] ∧ b = false ∧ es = [] ∧ er = []) ∨ (s.pl = 64 ∧ errOf s l = 0 ∧ RdQ (readOf s l) x b es er e)
theorem sc_same {s : Su} {l : List Br} {x x' : List UInt8} {b b' : Bool} {es es' er er' : List Nat} {e e' : Int} (h : ScR s l x b es er e) (k : ScQ s l x' b' es' er' e') : x' = x ∧ b' = b ∧ es' = es ∧ er' = er ∧ e' = e := by
  rcases h with ⟨h1, h2, h3, h4, h5, h6⟩ | ⟨h1, h0, h2, h3, h4, h5, h6⟩ | ⟨h1, h0, h2⟩
  · rcases k with ⟨_, k2, k3, k4, k5, k6⟩ | ⟨k1, _⟩ | ⟨k1, _⟩
    · exact ⟨by rw [h3, k3], by rw [h4, k4], by rw [h5, k5], by rw [h6, k6], by rw [h2, k2]⟩
    · exact absurd k1 h1
    · exact absurd k1 h1
  · rcases k with ⟨k1, _⟩ | ⟨_, _, k2, k3, k4, k5, k6⟩ | ⟨_, k0, _⟩
    · exact absurd h1 k1
    · exact ⟨by rw [h3, k3], by rw [h4, k4], by rw [h5, k5], by rw [h6, k6], by rw [h2, k2]⟩
    · exact absurd k0 h0
  · rcases k with ⟨k1, _⟩ | ⟨_, k0, _⟩ | ⟨_, _, k2⟩
    · exact absurd h1 k1
    · exact absurd h0 k0
    · exact rd_same h2 k2
theorem sc_small {s : Su} {l : List Br} {x : List UInt8} {b : Bool} {es er : List Nat} {e : Int} (h : ScR s l x b es er e) : es.length ≤ 20 ∧ er.length ≤ 20 := by
  rcases h with ⟨_, _, _, _, h5, h6⟩ | ⟨_, _, _, _, _, h5, h6⟩ | ⟨_, _, h⟩
  · rw [h5, h6]; exact ⟨Nat.zero_le _, Nat.zero_le _⟩
  · rw [h5, h6]; exact ⟨Nat.zero_le _, Nat.zero_le _⟩
  · exact rd_small h
theorem dr_all {s : Su} {t x : List UInt8} {l : List Br} {e : Int} (h : DrR s t l e) (hx : WrR t x) : (errW t ≠ 0 → e = errW t ∧ l = []) ∧ (errW t = 0 → e = drawErr s x ∧ l = drawOf s x ∧ l.length ≤ 64) := by
  have h64 : errW t = 0 → x.length = 64 := fun h0 => by
    obtain ⟨c, hc, rfl⟩ := hx.1 h0
    rw [barsT_len, enc20 hc]
  rcases h with ⟨h0, h1, h2⟩ | ⟨h0, hp, h1, h2⟩ | ⟨h0, hp, y, hy, h1, h2⟩
  · exact ⟨fun _ => ⟨h1, h2⟩, fun h => absurd h h0⟩
  · refine ⟨fun h => absurd h0 h, fun _ => ?_⟩
    have := h64 h0
    obtain ⟨e1, e2⟩ := drawErr_bad s x (by rintro ⟨_, a, _⟩; omega)
    rw [h1, h2, e1, e2]
    exact ⟨rfl, rfl, Nat.zero_le _⟩
  · refine ⟨fun h => absurd h0 h, fun _ => ?_⟩
    obtain rfl := wr_uniq hx hy
    have := h64 h0
    refine ⟨h1, h2, ?_⟩
    rw [h2]
    unfold drawOf
    split
    · have := drawL_len s x 0; omega
    · exact Nat.zero_le _
end Go.Proofs.YtgjnchjkjdnidaaGreat

/- Chapter 21: walks (HC). Written by program. -/
namespace Go.Proofs.YtgjnchjkjdnidaaGreat
open Go.RowKit
set_option maxRecDepth 100000 in
set_option maxHeartbeats 1000000 in
theorem hrread_ret (s : Su) (v : Value) (l : List Br) (w : World) (hl : RdL w 3 Br.c v l) (hlen : l.length ≤ 1000) :
  Ret Tryz.prog 20 [s.v, v] w (fun v w' => v = .tuple #[.string ⟨(readOf s l).toArray⟩, .int .i64 (errOf s l)] ∧ Ex w w') := by
 have hB0 : Ex w w := Ex.rfl_ _
 refine Ret.of Tryz.func20 rfl Tryz.ntmps20 rfl ?_
 refine CW.seq (CW.region ?_)
 refine RG.box rfl rfl rfl rfl rfl (fun g1 w1 eg1 hx1 hb1 => ?_)
 have hE2 := hx1
 refine RG.vl rfl rfl rfl (Ev.assign rfl rfl) ?_
 refine RG.vl rfl rfl rfl (Ev.assign rfl rfl) ?_
 refine RG.done (QW.then_ (CW.seq (CW.seq (CW.region ?_))))
 refine RG.vl rfl rfl rfl (Ev.ldAgg rfl rfl Tryz.underlying38 rfl sz_38 rfl (hb1.cells)) ?_
 refine RG.vl rfl rfl rfl (Ev.move rfl rfl) ?_
 refine RG.call rfl rfl rfl rfl rfl rfl rfl en_50 (herror_ret _ _ _ _ ((hl.ext hE2)) (by omega)) ?_
 rintro _ w3 ⟨rfl, hx3⟩
 replace hE2 := Ex.tr hE2 hx3
 have hE4 := hx3
 refine RG.vl rfl rfl rfl (Ev.assign rfl rfl) ?_
 refine RG.done (QW.then_ (CW.seq (CW.region ?_)))
 refine RG.vl rfl rfl rfl (Ev.move rfl rfl) ?_
 refine RG.vl rfl rfl rfl (Ev.neI rfl rfl rfl) ?_
 refine RG.done (QW.then_ ?_)
 refine CW.condP rfl (fun hc5 => ?_) (fun hc5 => ?_)
 ·refine CW.seq (CW.region ?_)
  refine RG.vl rfl rfl rfl (Ev.move rfl rfl) ?_
  refine RG.vl rfl rfl rfl (Ev.assign rfl rfl) ?_
  refine RG.vl rfl rfl rfl (Ev.assign rfl rfl) ?_
  refine RG.done (QW.then_ (CW.ret (QW.thenRet ?_)))
  refine QW.ret2 rfl rfl rfl ?_
  have hB := (Ex.tr hB0 hE2)
  exact ⟨by unfold readOf; rw [if_neg (by omega)], hB⟩
 ·refine CW.skip (QW.then_ (CW.seq ?_))
  obtain ⟨hl4, hs, hin, hfit⟩ := (err0_iff s l).1 (by omega)
  have hpl := hs.1
  have hpl2 := hs.2.1
  refine CW.region ?_
  refine RG.vl rfl rfl rfl (Ev.assign rfl rfl) ?_
  refine RG.done (QW.then_ (CW.seq (CW.seq (CW.region ?_))))
  refine RG.vl rfl rfl rfl (Ev.assign rfl rfl) ?_
  refine RG.done (QW.then_ (CW.block ?_))
  replace hl := (hl.ext hE2)
  replace hb1 := (hb1.ext hE4)
  have hR6 := (Ex.tr hB0 hE2)
  have hR7 := hE4
  refine CW.loop2 [(1, _), (2, _), (4, _), (5, _)] ⟨rfl, rfl, rfl, rfl, trivial⟩ (fun (k : Nat) (out : ByteArray) => [(8, .int .i64 k), (7, .string out)]) (fun k out w' => ((k : Int) ≤ s.pl ∧ out = ⟨((List.range k).map (letterAt s l)).toArray⟩) ∧ Ex w3 w') (fun k out => s.pl.toNat - k) (0) (⟨#[]⟩) ⟨rfl, rfl, trivial⟩ ⟨⟨by omega, rfl⟩, (Ex.rfl_ _)⟩ ?_
  rintro k out wl8 ⟨⟨hkp, hout⟩, hxwl8⟩
  refine CW.sub (S' := [(8, _), (7, _), (1, _), (2, _), (4, _), (5, _)]) ⟨rfl, rfl, rfl, rfl, rfl, rfl, trivial⟩ ?_
  refine CW.seq (CW.seq (CW.region ?_))
  refine RG.vl rfl rfl rfl (Ev.move rfl rfl) ?_
  refine RG.vl rfl rfl rfl (Ev.fld rfl rfl fld_38_0) ?_
  refine RG.vl rfl rfl rfl (Ev.ldAt rfl rfl Tryz.underlying3 rfl ((hb1.ext hxwl8).cells) (rfl)) ?_
  refine RG.vl rfl rfl rfl (Ev.lss rfl rfl rfl) ?_
  refine RG.done (QW.then_ ?_)
  refine CW.condP rfl (fun hc9 => ?_) (fun hc9 => ?_)
  ·refine CW.skip (QW.then_ (CW.seq (CW.block (CW.seq (CW.region ?_)))))
   refine RG.vl rfl rfl rfl (Ev.assign rfl rfl) ?_
   refine RG.done (QW.then_ (CW.seq (CW.seq (CW.region ?_))))
   refine RG.vl rfl rfl rfl (Ev.assign rfl rfl) ?_
   refine RG.done (QW.then_ (CW.block ?_))
   replace hl := (hl.ext hxwl8)
   replace hb1 := (hb1.ext hxwl8)
   have hR10 := (Ex.tr hR6 hxwl8)
   have hR11 := (Ex.tr hR7 hxwl8)
   have hR12 := hxwl8
   refine CW.loop2 [(1, _), (2, _), (4, _), (5, _), (7, _), (8, _)] ⟨rfl, rfl, rfl, rfl, rfl, rfl, trivial⟩ (fun (i : Nat) (x : UInt8) => [(10, .int .i64 i), (9, .string ⟨#[x]⟩)]) (fun i x w' => (i ≤ l.length ∧ x = letterAt s (l.take i) k) ∧ Ex wl8 w') (fun i x => l.length - i) (0) (63) ⟨rfl, rfl, trivial⟩ ⟨⟨Nat.zero_le _, rfl⟩, (Ex.rfl_ _)⟩ ?_
   rintro i x wl13 ⟨⟨hi, hx⟩, hxwl13⟩
   refine CW.sub (S' := [(10, _), (9, _), (1, _), (2, _), (4, _), (5, _), (7, _), (8, _)]) ⟨rfl, rfl, rfl, rfl, rfl, rfl, rfl, rfl, trivial⟩ ?_
   refine CW.seq (CW.seq (CW.region ?_))
   refine RG.vl rfl rfl rfl (Ev.move rfl rfl) ?_
   refine RG.vl rfl rfl rfl (Ev.move rfl rfl) ?_
   refine RG.vl rfl rfl rfl (Ev.lenL rfl rfl rfl Tryz.underlying34 ((hl.ext hxwl13))) ?_
   refine RG.vl rfl rfl rfl (Ev.lss rfl rfl rfl) ?_
   refine RG.done (QW.then_ ?_)
   refine CW.condP rfl (fun hc14 => ?_) (fun hc14 => ?_)
   ·refine CW.skip (QW.then_ (CW.seq (CW.block (CW.seq ?_))))
    obtain ⟨b, hk⟩ : ∃ b, l[i]? = some b := ⟨l[i]'(by omega), List.getElem?_eq_getElem _⟩
    have hib := hin b (List.mem_of_getElem? hk)
    refine CW.draw [] (.ex) 7 rfl mixed (fun wd15 hxwd15 => ?_)
    replace hxwl13 := Ex.tr hxwl13 hxwd15
    have hE16 := hxwd15
    refine AG.take 0 rfl (by kernel_rfl) (by kernel_rfl) rfl rfl rfl (fun wq hq => Ev.ldAgg rfl rfl Tryz.underlying38 rfl sz_38 rfl (((hb1.ext hxwl13).ext hq).cells)) ?_
    refine AG.takeW 1 rfl (by kernel_rfl) (by kernel_rfl) rfl rfl rfl (fun _ => Ev.move rfl rfl) ?_
    refine AG.takeW 2 rfl (by kernel_rfl) (by kernel_rfl) rfl rfl rfl (fun _ => Ev.move rfl rfl) ?_
    refine AG.idxL _ 3 rfl (by kernel_rfl) (by kernel_rfl) rfl rfl rfl rfl rfl rfl Tryz.underlying34 sz_37 ((hl.ext hxwl13)) (hk) (fun p17 hp17b hp17 => ?_)
    refine AG.take 4 rfl (by kernel_rfl) (by kernel_rfl) rfl rfl rfl (fun wq hq => Ev.ldAgg rfl rfl Tryz.underlying37 rfl sz_37 rfl (hp17.ext hq hp17b)) ?_
    refine AG.takeW 5 rfl (by kernel_rfl) (by kernel_rfl) rfl rfl rfl (fun _ => Ev.move rfl rfl) ?_
    refine AG.only 6 rfl (by kernel_rfl) ?_
    refine RG.call rfl rfl rfl rfl rfl rfl rfl en_51 (stands_ret _ _ _ _ hs (by assumption) (by omega) (by omega)) ?_
    rintro _ w19 ⟨rfl, hx19⟩
    replace hxwl13 := Ex.tr hxwl13 hx19
    replace hE16 := Ex.tr hE16 hx19
    have hE20 := hx19
    refine RG.done ?_
    refine QW.an (fun _ => hE20) ?_
    refine AG.done (by kernel_rfl) ?_
    refine QW.then_ ?_
    refine CW.condP rfl (fun hc21 => ?_) (fun hc21 => ?_)
    ·have hst : Stand s b k := by assumption
     refine CW.draw [] (.ex) 7 rfl mixed (fun wd22 hxwd22 => ?_)
     replace hxwl13 := Ex.tr hxwl13 hxwd22
     replace hE16 := Ex.tr hE16 hxwd22
     replace hE20 := Ex.tr hE20 hxwd22
     refine AG.take 0 rfl (by kernel_rfl) (by kernel_rfl) rfl rfl rfl (fun wq hq => Ev.ldAgg rfl rfl Tryz.underlying38 rfl sz_38 rfl (((hb1.ext hxwl13).ext hq).cells)) ?_
     refine AG.takeW 1 rfl (by kernel_rfl) (by kernel_rfl) rfl rfl rfl (fun _ => Ev.move rfl rfl) ?_
     refine AG.takeW 2 rfl (by kernel_rfl) (by kernel_rfl) rfl rfl rfl (fun _ => Ev.move rfl rfl) ?_
     refine AG.idxL _ 3 rfl (by kernel_rfl) (by kernel_rfl) rfl rfl rfl rfl rfl rfl Tryz.underlying34 sz_37 ((hl.ext hxwl13)) (hk) (fun p23 hp23b hp23 => ?_)
     refine AG.take 4 rfl (by kernel_rfl) (by kernel_rfl) rfl rfl rfl (fun wq hq => Ev.ldAgg rfl rfl Tryz.underlying37 rfl sz_37 rfl (hp23.ext hq hp23b)) ?_
     refine AG.only 5 rfl (by kernel_rfl) ?_
     refine RG.call rfl rfl rfl rfl rfl rfl rfl en_52 (hletter_ret _ _ _) ?_
     rintro _ w25 ⟨rfl, hx25⟩
     replace hxwl13 := Ex.tr hxwl13 hx25
     replace hE16 := Ex.tr hE16 hx25
     replace hE20 := Ex.tr hE20 hx25
     have hE26 := hx25
     refine RG.done ?_
     refine QW.an (fun _ => hE26) ?_
     refine AG.takeW 6 rfl (by kernel_rfl) (by kernel_rfl) rfl rfl rfl (fun _ => Ev.assign rfl rfl) ?_
     refine AG.done (by kernel_rfl) ?_
     refine QW.sub (S' := [(1, _), (2, _), (4, _), (5, _), (7, _), (8, _), (9, _), (10, _)]) ⟨rfl, rfl, rfl, rfl, rfl, rfl, rfl, rfl, trivial⟩ ?_
     refine QW.blockN (QW.then_ (CW.region ?_))
     refine RG.vl rfl rfl rfl (Ev.move rfl rfl) ?_
     refine RG.vl rfl rfl rfl (Ev.addI rfl rfl rfl (by omega)) ?_
     refine RG.vl rfl rfl rfl (Ev.assign rfl rfl) ?_
     refine RG.done ?_
     refine QW.round2 (i + 1) (letter s b) ⟨rfl, rfl, trivial⟩ ⟨rfl, rfl, rfl, rfl, rfl, rfl, trivial⟩ ⟨⟨by omega, (letterAt_hit s l i k b hfit hk ((stand_iff s b k hs (by omega) (by omega)).1 hst)).symm⟩, hxwl13⟩ (by omega)
    ·refine CW.skip (QW.blockN (QW.then_ (CW.region ?_)))
     refine RG.vl rfl rfl rfl (Ev.move rfl rfl) ?_
     refine RG.vl rfl rfl rfl (Ev.addI rfl rfl rfl (by omega)) ?_
     refine RG.vl rfl rfl rfl (Ev.assign rfl rfl) ?_
     refine RG.done ?_
     refine QW.sub (S' := [(1, _), (2, _), (4, _), (5, _), (7, _), (8, _), (9, _), (10, _)]) ⟨rfl, rfl, rfl, rfl, rfl, rfl, rfl, rfl, trivial⟩ ?_
     refine QW.round2 (i + 1) (x) ⟨rfl, rfl, trivial⟩ ⟨rfl, rfl, rfl, rfl, rfl, rfl, trivial⟩ ⟨⟨by omega, by rw [letterAt_miss s l i k b hk (fun e => absurd ((stand_iff s b k hs (by omega) (by omega)).2 e) (by assumption))]; exact hx⟩, hxwl13⟩ (by omega)
   ·refine CW.exit (QW.thenExit (QW.thenExit (QW.blockHit (QW.then_ (CW.region ?_)))))
    refine RG.vl rfl rfl rfl (Ev.move rfl rfl) ?_
    refine RG.vl rfl rfl rfl (Ev.move rfl rfl) ?_
    refine RG.vl rfl rfl rfl (Ev.cat rfl rfl rfl (by rw [hout, size_bytes]; simp; show _ + 1 ≤ _; omega)) ?_
    refine RG.vl rfl rfl rfl (Ev.assign rfl rfl) ?_
    refine RG.done (QW.blockN (QW.then_ (CW.region ?_)))
    refine RG.vl rfl rfl rfl (Ev.move rfl rfl) ?_
    refine RG.vl rfl rfl rfl (Ev.addI rfl rfl rfl (by omega)) ?_
    refine RG.vl rfl rfl rfl (Ev.assign rfl rfl) ?_
    refine RG.done ?_
    refine QW.round2 (k + 1) (out ++ ⟨#[x]⟩) ⟨rfl, rfl, trivial⟩ ⟨rfl, rfl, rfl, rfl, trivial⟩ ⟨⟨by omega, by have e : i = l.length := (by omega); subst e; rw [List.take_length] at hx; rw [hout, hx, bytes_snoc, List.range_succ, List.map_append]; rfl⟩, (Ex.tr hR12 hxwl13)⟩ (by omega)
  ·refine CW.exit (QW.thenExit (QW.thenExit (QW.blockHit (QW.then_ (CW.seq (CW.region ?_))))))
   refine RG.vl rfl rfl rfl (Ev.move rfl rfl) ?_
   refine RG.vl rfl rfl rfl (Ev.assign rfl rfl) ?_
   refine RG.vl rfl rfl rfl (Ev.assign rfl rfl) ?_
   refine RG.done (QW.then_ (CW.ret ?_))
   refine QW.ret2 rfl rfl rfl ?_
   have hB := (Ex.tr hR6 hxwl8)
   have e : k = s.pl.toNat := by omega
   subst e
   exact ⟨by unfold readOf textOf; rw [if_pos (by omega), hout, show errOf s l = 0 by omega], hB⟩

end Go.Proofs.YtgjnchjkjdnidaaGreat

/- Chapter 21: walks (HD). Written by program. -/
namespace Go.Proofs.YtgjnchjkjdnidaaGreat
open Go.RowKit
set_option maxRecDepth 100000 in
set_option maxHeartbeats 1000000 in
theorem rdraw_ret (s : Su) (t : ByteArray) (w : World) (hlen : t.size ≤ 1000) :
  Ret Tryz.prog 11 [s.v, .string t] w (fun v w' => ∃ u, v = .tuple #[u, .int .i64 (drawErr s t.data.toList)] ∧ RdL w' 3 Br.c u (drawOf s t.data.toList) ∧ Ex w w') := by
 have hB0 : Ex w w := Ex.rfl_ _
 refine Ret.of Tryz.func11 rfl Tryz.ntmps11 rfl ?_
 refine CW.seq (CW.region ?_)
 refine RG.box rfl rfl rfl rfl rfl (fun g1 w1 eg1 hx1 hb1 => ?_)
 have hle2 : w.heap.size ≤ g1 := by have := (Ex.rfl_ w).size; omega
 have hE3 := hx1
 refine RG.vl rfl rfl rfl (Ev.assign rfl rfl) ?_
 refine RG.vl rfl rfl rfl (Ev.assign rfl rfl) ?_
 refine RG.done (QW.then_ (CW.seq (CW.seq (CW.region ?_))))
 refine RG.vl rfl rfl rfl (Ev.ldAgg rfl rfl Tryz.underlying38 rfl sz_38 rfl (hb1.cells)) ?_
 refine RG.call rfl rfl rfl rfl rfl rfl rfl en_24 (rright_ret _ _) ?_
 rintro _ w4 ⟨rfl, hx4⟩
 replace hE3 := Ex.tr hE3 hx4
 have hE5 := hx4
 refine RG.vl rfl rfl rfl (Ev.notP rfl rfl) ?_
 refine RG.vl rfl rfl rfl (Ev.move rfl rfl) ?_
 refine RG.split (d := 12) rfl (fun hg6 => ?_) (fun hg6 => ?_)
 ·refine RG.pass rfl rfl rfl ?_
  refine RG.pass rfl rfl rfl ?_
  refine RG.pass rfl rfl rfl ?_
  refine RG.pass rfl rfl rfl ?_
  refine RG.pass rfl rfl rfl ?_
  refine RG.vl rfl rfl rfl (Ev.pickT rfl rfl rfl) ?_
  refine RG.done (QW.then_ ?_)
  refine CW.condT rfl ?_
  refine CW.seq (CW.region ?_)
  refine RG.vl rfl rfl rfl (Ev.assign rfl rfl) ?_
  refine RG.vl rfl rfl rfl (Ev.assign rfl rfl) ?_
  refine RG.done ?_
  refine QW.sub (S' := [(1, _), (2, _), (4, _), (5, _)]) ⟨rfl, rfl, rfl, rfl, trivial⟩ ?_
  refine QW.then_ (CW.ret (QW.thenRet ?_))
  refine QW.ret2 rfl rfl rfl ?_
  have hB := (Ex.tr hB0 hE3)
  obtain ⟨e1, e2⟩ := drawErr_bad s t.data.toList (by rintro ⟨h1, h2, _⟩; first | exact absurd h1 (by assumption) | (rw [Array.length_toList] at h2; exact absurd (show (t.size : Int) = s.pl from h2) (by assumption)))
  exact ⟨_, by rw [e1], by rw [e2]; exact RdL.nil_ _, hB⟩
 ·refine RG.vl rfl rfl rfl (Ev.move rfl rfl) ?_
  refine RG.vl rfl rfl rfl (Ev.lenStr rfl rfl rfl Tryz.underlying9) ?_
  refine RG.vl rfl rfl rfl (Ev.fld rfl rfl fld_38_0) ?_
  refine RG.vl rfl rfl rfl (Ev.ldAt rfl rfl Tryz.underlying3 rfl ((hb1.ext hE5).cells) (rfl)) ?_
  refine RG.vl rfl rfl rfl (Ev.neI rfl rfl rfl) ?_
  refine RG.vl rfl rfl rfl (Ev.pickF rfl rfl rfl) ?_
  refine RG.done (QW.then_ ?_)
  refine CW.condP rfl (fun hc7 => ?_) (fun hc7 => ?_)
  ·refine CW.seq (CW.region ?_)
   refine RG.vl rfl rfl rfl (Ev.assign rfl rfl) ?_
   refine RG.vl rfl rfl rfl (Ev.assign rfl rfl) ?_
   refine RG.done ?_
   refine QW.sub (S' := [(1, _), (2, _), (4, _), (5, _)]) ⟨rfl, rfl, rfl, rfl, trivial⟩ ?_
   refine QW.then_ (CW.ret (QW.thenRet ?_))
   refine QW.ret2 rfl rfl rfl ?_
   have hB := (Ex.tr hB0 hE3)
   obtain ⟨e1, e2⟩ := drawErr_bad s t.data.toList (by rintro ⟨h1, h2, _⟩; first | exact absurd h1 (by assumption) | (rw [Array.length_toList] at h2; exact absurd (show (t.size : Int) = s.pl from h2) (by assumption)))
   exact ⟨_, by rw [e1], by rw [e2]; exact RdL.nil_ _, hB⟩
  ·refine CW.skip (QW.then_ (CW.seq ?_))
   have hs : Okay s := Decidable.not_not.1 (by assumption)
   obtain ⟨a1, a2, a3, a4, a5, a6, a7, a8, a9, a10, a11⟩ := id hs
   refine CW.region ?_
   refine RG.vl rfl rfl rfl (Ev.assign rfl rfl) ?_
   refine RG.done ?_
   refine QW.sub (S' := [(1, _), (2, _), (4, _), (5, _), (6, _)]) ⟨rfl, rfl, rfl, rfl, rfl, trivial⟩ ?_
   refine QW.then_ (CW.seq (CW.seq (CW.region ?_)))
   refine RG.vl rfl rfl rfl (Ev.assign rfl rfl) ?_
   refine RG.done (QW.then_ (CW.block ?_))
   replace hb1 := (hb1.ext hE5)
   have hR8 := (Ex.tr hB0 hE3)
   have hR9 := hE5
   refine CW.loop2 [(1, _), (2, _)] ⟨rfl, rfl, trivial⟩ (fun (k : Nat) (u : Value) => [(7, .int .i64 k), (6, u)]) (fun k u w' => (k ≤ t.size ∧ w'.ownsRow w4.heap.size 37 3 u (drawL s (t.data.toList.take k) 0).length ((drawL s (t.data.toList.take k) 0).flatMap Br.c) ∧ (t.data.toList.take k).all okLetter = true) ∧ Ex w4 w') (fun k u => t.size - k) (0) (.slice none 0 0) ⟨rfl, rfl, trivial⟩ ⟨⟨Nat.zero_le _, own_nil _ _ _ _, rfl⟩, (Ex.rfl_ _)⟩ ?_
   rintro k u wl10 ⟨⟨hkl, hown, hall⟩, hxwl10⟩
   refine CW.sub (S' := [(7, _), (6, _), (1, _), (2, _)]) ⟨rfl, rfl, rfl, rfl, trivial⟩ ?_
   refine CW.seq (CW.seq (CW.region ?_))
   refine RG.vl rfl rfl rfl (Ev.move rfl rfl) ?_
   refine RG.vl rfl rfl rfl (Ev.move rfl rfl) ?_
   refine RG.vl rfl rfl rfl (Ev.lenStr rfl rfl rfl Tryz.underlying9) ?_
   refine RG.vl rfl rfl rfl (Ev.lss rfl rfl rfl) ?_
   refine RG.done (QW.then_ ?_)
   refine CW.condP rfl (fun hc11 => ?_) (fun hc11 => ?_)
   ·refine CW.skip (QW.then_ (CW.seq (CW.block (CW.seq ?_))))
    have hkt : k < t.data.toList.length := by rw [Array.length_toList]; exact (show k < t.size by omega)
    obtain ⟨c, hc⟩ : ∃ c, t.data.toList[k]? = some c := ⟨_, List.getElem?_eq_getElem hkt⟩
    have hlz : t.data.toList.length = t.size := Array.length_toList
    have hkp := kpi s k hs (by omega) (by omega)
    have hdl := drawL_len s (t.data.toList.take k) 0
    rw [List.length_take] at hdl
    refine CW.region ?_
    refine RG.vl rfl rfl rfl (Ev.fld rfl rfl fld_38_1) ?_
    refine RG.vl rfl rfl rfl (Ev.ldAt rfl rfl Tryz.underlying3 rfl ((hb1.ext hxwl10).cells) (rfl)) ?_
    refine RG.vl rfl rfl rfl (Ev.move rfl rfl) ?_
    refine RG.vl rfl rfl rfl (Ev.fld rfl rfl fld_38_2) ?_
    refine RG.vl rfl rfl rfl (Ev.ldAt rfl rfl Tryz.underlying3 rfl ((hb1.ext hxwl10).cells) (rfl)) ?_
    refine RG.vl rfl rfl rfl (Ev.mulI rfl rfl rfl (by omega)) ?_
    refine RG.vl rfl rfl rfl (Ev.addI rfl rfl rfl (by omega)) ?_
    refine RG.vl rfl rfl rfl (Ev.fld rfl rfl fld_38_4) ?_
    refine RG.vl rfl rfl rfl (Ev.ldAt rfl rfl Tryz.underlying3 rfl ((hb1.ext hxwl10).cells) (rfl)) ?_
    refine RG.vl rfl rfl rfl (Ev.fld rfl rfl fld_38_4) ?_
    refine RG.vl rfl rfl rfl (Ev.ldAt rfl rfl Tryz.underlying3 rfl ((hb1.ext hxwl10).cells) (rfl)) ?_
    refine RG.vl rfl rfl rfl (Ev.build1 rfl rfl rfl inf_37 rfl rfl (by kernel_rfl) rfl) ?_
    refine RG.local_ rfl rfl rfl rfl (fun _ => rfl) rfl rfl (fun _ => rfl) inf_37 rfl rfl rfl (fun g12 w12 eg12 hx12 hb12 => ?_)
    have hle13 : w4.heap.size ≤ g12 := by have := hxwl10.size; omega
    have hle14 : wl10.heap.size ≤ g12 := by have := (Ex.rfl_ wl10).size; omega
    have hlt15 : g1 < g12 := by have := Blk.lt (hb1.ext hxwl10); omega
    replace hxwl10 := Ex.tr hxwl10 hx12
    have hE16 := hx12
    refine RG.done ?_
    refine QW.sub (S' := [(1, _), (2, _), (6, _), (7, _), (8, _)]) ⟨rfl, rfl, rfl, rfl, rfl, trivial⟩ ?_
    refine QW.then_ (CW.seq (CW.seq (CW.region ?_)))
    refine RG.vl rfl rfl rfl (Ev.move rfl rfl) ?_
    refine RG.vl rfl rfl rfl (Ev.move rfl rfl) ?_
    refine RG.vl rfl rfl rfl (Ev.byteAt rfl rfl rfl Tryz.underlying9 (by omega) (hc)) ?_
    refine RG.done (QW.then_ (CW.block (CW.seq (CW.region ?_))))
    refine RG.vl rfl rfl rfl (Ev.eqI rfl rfl rfl) ?_
    refine RG.vl rfl rfl rfl (Ev.assign rfl rfl) ?_
    refine RG.done (QW.then_ ?_)
    refine CW.condP rfl (fun hc17 => ?_) (fun hc17 => ?_)
    ·refine CW.region ?_
     refine RG.vl rfl rfl rfl (Ev.fld rfl rfl fld_38_5) ?_
     refine RG.vl rfl rfl rfl (Ev.ldAt rfl rfl Tryz.underlying3 rfl ((hb1.ext hxwl10).cells) (rfl)) ?_
     refine RG.vl rfl rfl rfl (Ev.fld rfl rfl fld_37_1) ?_
     refine RG.st (g := g12) (k := 1) rfl rfl rfl rfl rfl sz_3 rfl hb12 rfl (fun ws18 hwws18 hbws18 => ?_)
     replace hxwl10 := Wr.below hxwl10 hwws18 hle13
     replace hE16 := Wr.below hE16 hwws18 hle14
     refine RG.done (QW.blockN (QW.then_ (CW.seq (CW.region ?_))))
     refine RG.vl rfl rfl rfl (Ev.move rfl rfl) ?_
     refine RG.vl rfl rfl rfl (Ev.move rfl rfl) ?_
     refine RG.vl rfl rfl rfl (Ev.byteAt rfl rfl rfl Tryz.underlying9 (by omega) (hc)) ?_
     refine RG.vl rfl rfl rfl (Ev.isT (Ev.neI rfl rfl rfl) (by omega)) ?_
     refine RG.done (QW.then_ ?_)
     refine CW.condT rfl ?_
     refine CW.region ?_
     refine RG.vl rfl rfl rfl (Ev.move rfl rfl) ?_
     refine RG.vl rfl rfl rfl (Ev.ldAgg rfl rfl Tryz.underlying37 rfl sz_37 rfl (hbws18.cells)) ?_
     refine RG.buildD (xs := [.tmp 66]) rfl rfl rfl rfl rfl rfl rfl Tryz.underlying34 inf_37 rfl rfl rfl rfl (fun g19 w19 eg19 hx19 hb19 => ?_)
     have hsep20 := own_new (own_ext hown hE16) eg19
     replace hxwl10 := Ex.tr hxwl10 hx19
     replace hE16 := Ex.tr hE16 hx19
     have hE21 := hx19
     refine RG.app rfl rfl rfl rfl rfl rfl rfl Tryz.underlying34 inf_37 rfl rfl (own_ext hown hE16) rfl (fun _ => ⟨_, rfl, hb19.cells⟩) rfl (by simp only [maxLen]; omega) (by omega) (hxwl10.size) (fun v22 wa23 hown24 hgr25 hat26 => ?_)
     have hb27 := Blk.grown hb19 hgr25 hsep20.symm
     have hsep28 := sep_app hat26 hsep20 (Blk.lt hb19)
     replace hxwl10 := own_block (own_ext hown hE16) hxwl10 hgr25 (Nat.le_refl _) hxwl10.size
     refine RG.vl rfl rfl rfl (Ev.assign rfl rfl) ?_
     refine RG.done ?_
     refine QW.sub (S' := [(1, _), (2, _), (6, _), (7, _)]) ⟨rfl, rfl, rfl, rfl, trivial⟩ ?_
     refine QW.blockN (QW.then_ (CW.region ?_))
     refine RG.vl rfl rfl rfl (Ev.move rfl rfl) ?_
     refine RG.vl rfl rfl rfl (Ev.addI rfl rfl rfl (by omega)) ?_
     refine RG.vl rfl rfl rfl (Ev.assign rfl rfl) ?_
     refine RG.done ?_
     refine QW.round2 (k + 1) (v22) ⟨rfl, rfl, trivial⟩ ⟨rfl, rfl, trivial⟩ ⟨⟨by omega, by rw [drawL_step s _ k c hc (by rw [byte_eq (c := c) (d := 65) (by assumption)]; decide), byte_eq (c := c) (d := 65) (by assumption), show mkb s 65 k = ⟨s.og + k * s.pi, s.hi, s.lo⟩ from by simp [mkb], List.length_append, List.flatMap_append]; exact hown24, all_snoc _ k c _ hc hall (by rw [byte_eq (c := c) (d := 65) (by assumption)]; rfl)⟩, hxwl10⟩ (by omega)
    ·refine CW.seq (CW.region ?_)
     refine RG.vl rfl rfl rfl (Ev.eqI rfl rfl rfl) ?_
     refine RG.vl rfl rfl rfl (Ev.assign rfl rfl) ?_
     refine RG.done (QW.then_ ?_)
     refine CW.condP rfl (fun hc29 => ?_) (fun hc29 => ?_)
     ·refine CW.region ?_
      refine RG.vl rfl rfl rfl (Ev.fld rfl rfl fld_38_5) ?_
      refine RG.vl rfl rfl rfl (Ev.ldAt rfl rfl Tryz.underlying3 rfl ((hb1.ext hxwl10).cells) (rfl)) ?_
      refine RG.vl rfl rfl rfl (Ev.fld rfl rfl fld_37_2) ?_
      refine RG.st (g := g12) (k := 2) rfl rfl rfl rfl rfl sz_3 rfl hb12 rfl (fun ws30 hwws30 hbws30 => ?_)
      replace hxwl10 := Wr.below hxwl10 hwws30 hle13
      replace hE16 := Wr.below hE16 hwws30 hle14
      refine RG.done (QW.blockN (QW.then_ (CW.seq (CW.region ?_))))
      refine RG.vl rfl rfl rfl (Ev.move rfl rfl) ?_
      refine RG.vl rfl rfl rfl (Ev.move rfl rfl) ?_
      refine RG.vl rfl rfl rfl (Ev.byteAt rfl rfl rfl Tryz.underlying9 (by omega) (hc)) ?_
      refine RG.vl rfl rfl rfl (Ev.isT (Ev.neI rfl rfl rfl) (by omega)) ?_
      refine RG.done ?_
      refine QW.sub (S' := [(1, _), (2, _), (6, _), (7, _), (8, _), (64, _)]) ⟨rfl, rfl, rfl, rfl, rfl, rfl, trivial⟩ ?_
      refine QW.then_ ?_
      refine CW.condT rfl ?_
      refine CW.region ?_
      refine RG.vl rfl rfl rfl (Ev.move rfl rfl) ?_
      refine RG.vl rfl rfl rfl (Ev.ldAgg rfl rfl Tryz.underlying37 rfl sz_37 rfl (hbws30.cells)) ?_
      refine RG.buildD (xs := [.tmp 66]) rfl rfl rfl rfl rfl rfl rfl Tryz.underlying34 inf_37 rfl rfl rfl rfl (fun g31 w31 eg31 hx31 hb31 => ?_)
      have hsep32 := own_new (own_ext hown hE16) eg31
      replace hxwl10 := Ex.tr hxwl10 hx31
      replace hE16 := Ex.tr hE16 hx31
      have hE33 := hx31
      refine RG.app rfl rfl rfl rfl rfl rfl rfl Tryz.underlying34 inf_37 rfl rfl (own_ext hown hE16) rfl (fun _ => ⟨_, rfl, hb31.cells⟩) rfl (by simp only [maxLen]; omega) (by omega) (hxwl10.size) (fun v34 wa35 hown36 hgr37 hat38 => ?_)
      have hb39 := Blk.grown hb31 hgr37 hsep32.symm
      have hsep40 := sep_app hat38 hsep32 (Blk.lt hb31)
      replace hxwl10 := own_block (own_ext hown hE16) hxwl10 hgr37 (Nat.le_refl _) hxwl10.size
      refine RG.vl rfl rfl rfl (Ev.assign rfl rfl) ?_
      refine RG.done (QW.blockN (QW.then_ (CW.region ?_)))
      refine RG.vl rfl rfl rfl (Ev.move rfl rfl) ?_
      refine RG.vl rfl rfl rfl (Ev.addI rfl rfl rfl (by omega)) ?_
      refine RG.vl rfl rfl rfl (Ev.assign rfl rfl) ?_
      refine RG.done ?_
      refine QW.round2 (k + 1) (v34) ⟨rfl, rfl, trivial⟩ ⟨rfl, rfl, trivial⟩ ⟨⟨by omega, by rw [drawL_step s _ k c hc (by rw [byte_eq (c := c) (d := 68) (by assumption)]; decide), byte_eq (c := c) (d := 68) (by assumption), show mkb s 68 k = ⟨s.og + k * s.pi, s.lo, s.hi⟩ from by simp [mkb], List.length_append, List.flatMap_append]; exact hown36, all_snoc _ k c _ hc hall (by rw [byte_eq (c := c) (d := 68) (by assumption)]; rfl)⟩, hxwl10⟩ (by omega)
     ·refine CW.seq (CW.region ?_)
      refine RG.vl rfl rfl rfl (Ev.eqI rfl rfl rfl) ?_
      refine RG.vl rfl rfl rfl (Ev.assign rfl rfl) ?_
      refine RG.done (QW.then_ ?_)
      refine CW.condP rfl (fun hc41 => ?_) (fun hc41 => ?_)
      ·refine CW.draw [] (.row g12) 8 rfl mixed (fun wd42 hxwd42 => ?_)
       replace hxwl10 := Ex.tr hxwl10 hxwd42
       replace hE16 := Ex.tr hE16 hxwd42
       have hE43 := hxwd42
       refine AG.takeW 0 rfl (by kernel_rfl) (by kernel_rfl) rfl rfl rfl (fun _ => Ev.fld rfl rfl fld_38_5) ?_
       refine AG.take 1 rfl (by kernel_rfl) (by kernel_rfl) rfl rfl rfl (fun wq hq => Ev.ldAt rfl rfl Tryz.underlying3 rfl ((Blk.grown (hb1.ext hxwl10) hq (by simp; omega)).cells) (rfl)) ?_
       refine AG.takeW 2 rfl (by kernel_rfl) (by kernel_rfl) rfl rfl rfl (fun _ => Ev.fld rfl rfl fld_38_5) ?_
       refine AG.take 3 rfl (by kernel_rfl) (by kernel_rfl) rfl rfl rfl (fun wq hq => Ev.ldAt rfl rfl Tryz.underlying3 rfl ((Blk.grown (hb1.ext hxwl10) hq (by simp; omega)).cells) (rfl)) ?_
       refine AG.takeW 4 rfl (by kernel_rfl) (by kernel_rfl) rfl rfl rfl (fun _ => Ev.fld rfl rfl fld_37_1) ?_
       refine AG.only 5 rfl (by kernel_rfl) ?_
       refine RG.st (g := g12) (k := 1) rfl rfl rfl rfl rfl sz_3 rfl (hb12.ext hE43) rfl (fun ws45 hwws45 hbws45 => ?_)
       replace hxwl10 := Wr.below hxwl10 hwws45 hle13
       replace hE16 := Wr.below hE16 hwws45 hle14
       refine RG.done ?_
       refine QW.an (fun _ => Rr.of_wr hwws45) ?_
       refine AG.takeW 6 rfl (by kernel_rfl) (by kernel_rfl) rfl rfl rfl (fun _ => Ev.fld rfl rfl fld_37_2) ?_
       refine AG.only 7 rfl (by kernel_rfl) ?_
       refine RG.st (g := g12) (k := 2) rfl rfl rfl rfl rfl sz_3 rfl hbws45 rfl (fun ws47 hwws47 hbws47 => ?_)
       replace hxwl10 := Wr.below hxwl10 hwws47 hle13
       replace hE16 := Wr.below hE16 hwws47 hle14
       refine RG.done ?_
       refine QW.an (fun _ => Rr.of_wr hwws47) ?_
       refine AG.done (by kernel_rfl) ?_
       refine QW.sub (S' := [(1, _), (2, _), (6, _), (7, _), (8, _)]) ⟨rfl, rfl, rfl, rfl, rfl, trivial⟩ ?_
       refine QW.blockN (QW.then_ (CW.seq (CW.region ?_)))
       refine RG.vl rfl rfl rfl (Ev.move rfl rfl) ?_
       refine RG.vl rfl rfl rfl (Ev.move rfl rfl) ?_
       refine RG.vl rfl rfl rfl (Ev.byteAt rfl rfl rfl Tryz.underlying9 (by omega) (hc)) ?_
       refine RG.vl rfl rfl rfl (Ev.isT (Ev.neI rfl rfl rfl) (by omega)) ?_
       refine RG.done (QW.then_ ?_)
       refine CW.condT rfl ?_
       refine CW.region ?_
       refine RG.vl rfl rfl rfl (Ev.move rfl rfl) ?_
       refine RG.vl rfl rfl rfl (Ev.ldAgg rfl rfl Tryz.underlying37 rfl sz_37 rfl (hbws47.cells)) ?_
       refine RG.buildD (xs := [.tmp 66]) rfl rfl rfl rfl rfl rfl rfl Tryz.underlying34 inf_37 rfl rfl rfl rfl (fun g48 w48 eg48 hx48 hb48 => ?_)
       have hsep49 := own_new (own_ext hown hE16) eg48
       replace hxwl10 := Ex.tr hxwl10 hx48
       replace hE16 := Ex.tr hE16 hx48
       have hE50 := hx48
       refine RG.app rfl rfl rfl rfl rfl rfl rfl Tryz.underlying34 inf_37 rfl rfl (own_ext hown hE16) rfl (fun _ => ⟨_, rfl, hb48.cells⟩) rfl (by simp only [maxLen]; omega) (by omega) (hxwl10.size) (fun v51 wa52 hown53 hgr54 hat55 => ?_)
       have hb56 := Blk.grown hb48 hgr54 hsep49.symm
       have hsep57 := sep_app hat55 hsep49 (Blk.lt hb48)
       replace hxwl10 := own_block (own_ext hown hE16) hxwl10 hgr54 (Nat.le_refl _) hxwl10.size
       refine RG.vl rfl rfl rfl (Ev.assign rfl rfl) ?_
       refine RG.done (QW.blockN (QW.then_ (CW.region ?_)))
       refine RG.vl rfl rfl rfl (Ev.move rfl rfl) ?_
       refine RG.vl rfl rfl rfl (Ev.addI rfl rfl rfl (by omega)) ?_
       refine RG.vl rfl rfl rfl (Ev.assign rfl rfl) ?_
       refine RG.done ?_
       refine QW.round2 (k + 1) (v51) ⟨rfl, rfl, trivial⟩ ⟨rfl, rfl, trivial⟩ ⟨⟨by omega, by rw [drawL_step s _ k c hc (by rw [byte_eq (c := c) (d := 70) (by assumption)]; decide), byte_eq (c := c) (d := 70) (by assumption), show mkb s 70 k = ⟨s.og + k * s.pi, s.hi, s.hi⟩ from by simp [mkb], List.length_append, List.flatMap_append]; exact hown53, all_snoc _ k c _ hc hall (by rw [byte_eq (c := c) (d := 70) (by assumption)]; rfl)⟩, hxwl10⟩ (by omega)
      ·refine CW.seq (CW.seq (CW.region ?_))
       refine RG.vl rfl rfl rfl (Ev.eqI rfl rfl rfl) ?_
       refine RG.vl rfl rfl rfl (Ev.assign rfl rfl) ?_
       refine RG.done (QW.then_ ?_)
       refine CW.condP rfl (fun hc58 => ?_) (fun hc58 => ?_)
       ·refine CW.skip (QW.then_ ?_)
        refine CW.condP rfl (fun hc59 => ?_) (fun hc59 => ?_)
        ·refine CW.skip (QW.blockN (QW.then_ (CW.seq (CW.region ?_))))
         refine RG.vl rfl rfl rfl (Ev.move rfl rfl) ?_
         refine RG.vl rfl rfl rfl (Ev.move rfl rfl) ?_
         refine RG.vl rfl rfl rfl (Ev.byteAt rfl rfl rfl Tryz.underlying9 (by omega) (hc)) ?_
         refine RG.vl rfl rfl rfl (Ev.isT (Ev.neI rfl rfl rfl) (by omega)) ?_
         refine RG.done ?_
         refine QW.sub (S' := [(1, _), (2, _), (6, _), (7, _), (8, _), (64, _)]) ⟨rfl, rfl, rfl, rfl, rfl, rfl, trivial⟩ ?_
         refine QW.then_ ?_
         refine CW.condT rfl ?_
         refine CW.region ?_
         refine RG.vl rfl rfl rfl (Ev.move rfl rfl) ?_
         refine RG.vl rfl rfl rfl (Ev.ldAgg rfl rfl Tryz.underlying37 rfl sz_37 rfl (hb12.cells)) ?_
         refine RG.buildD (xs := [.tmp 66]) rfl rfl rfl rfl rfl rfl rfl Tryz.underlying34 inf_37 rfl rfl rfl rfl (fun g60 w60 eg60 hx60 hb60 => ?_)
         have hsep61 := own_new (own_ext hown hE16) eg60
         replace hxwl10 := Ex.tr hxwl10 hx60
         replace hE16 := Ex.tr hE16 hx60
         have hE62 := hx60
         refine RG.app rfl rfl rfl rfl rfl rfl rfl Tryz.underlying34 inf_37 rfl rfl (own_ext hown hE16) rfl (fun _ => ⟨_, rfl, hb60.cells⟩) rfl (by simp only [maxLen]; omega) (by omega) (hxwl10.size) (fun v63 wa64 hown65 hgr66 hat67 => ?_)
         have hb68 := Blk.grown hb60 hgr66 hsep61.symm
         have hsep69 := sep_app hat67 hsep61 (Blk.lt hb60)
         replace hxwl10 := own_block (own_ext hown hE16) hxwl10 hgr66 (Nat.le_refl _) hxwl10.size
         refine RG.vl rfl rfl rfl (Ev.assign rfl rfl) ?_
         refine RG.done (QW.blockN (QW.then_ (CW.region ?_)))
         refine RG.vl rfl rfl rfl (Ev.move rfl rfl) ?_
         refine RG.vl rfl rfl rfl (Ev.addI rfl rfl rfl (by omega)) ?_
         refine RG.vl rfl rfl rfl (Ev.assign rfl rfl) ?_
         refine RG.done ?_
         refine QW.round2 (k + 1) (v63) ⟨rfl, rfl, trivial⟩ ⟨rfl, rfl, trivial⟩ ⟨⟨by omega, by rw [drawL_step s _ k c hc (by rw [byte_eq (c := c) (d := 84) (by assumption)]; decide), byte_eq (c := c) (d := 84) (by assumption), show mkb s 84 k = ⟨s.og + k * s.pi, s.lo, s.lo⟩ from by simp [mkb], List.length_append, List.flatMap_append]; exact hown65, all_snoc _ k c _ hc hall (by rw [byte_eq (c := c) (d := 84) (by assumption)]; rfl)⟩, hxwl10⟩ (by omega)
        ·refine CW.seq (CW.region ?_)
         refine RG.vl rfl rfl rfl (Ev.assign rfl rfl) ?_
         refine RG.vl rfl rfl rfl (Ev.assign rfl rfl) ?_
         refine RG.done (QW.then_ (CW.ret (QW.blockR (QW.thenRet (QW.blockR (QW.thenRet ?_))))))
         refine QW.thenRet (QW.blockR (QW.thenRet ?_))
         refine QW.ret2 rfl rfl rfl ?_
         have hB := (Ex.tr hR8 hxwl10)
         obtain ⟨e1, e2⟩ := drawErr_bad s t.data.toList (by rintro ⟨_, _, h3⟩; have := (List.all_eq_true.1 h3) c (List.mem_of_getElem? hc); rw [okLetter_not ⟨by omega, by omega, by omega, by omega, by omega⟩] at this; cases this)
         exact ⟨_, by rw [e1], by rw [e2]; exact RdL.nil_ _, hB⟩
       ·refine CW.region ?_
        refine RG.vl rfl rfl rfl (Ev.eqI rfl rfl rfl) ?_
        refine RG.vl rfl rfl rfl (Ev.assign rfl rfl) ?_
        refine RG.done (QW.then_ ?_)
        refine CW.condP rfl (fun hc70 => ?_) (fun hc70 => ?_)
        ·refine CW.skip (QW.blockN (QW.then_ (CW.seq (CW.region ?_))))
         refine RG.vl rfl rfl rfl (Ev.move rfl rfl) ?_
         refine RG.vl rfl rfl rfl (Ev.move rfl rfl) ?_
         refine RG.vl rfl rfl rfl (Ev.byteAt rfl rfl rfl Tryz.underlying9 (by omega) (hc)) ?_
         refine RG.vl rfl rfl rfl (Ev.isF (Ev.neI rfl rfl rfl) (by omega)) ?_
         refine RG.done ?_
         refine QW.sub (S' := [(1, _), (2, _), (6, _), (7, _), (8, _), (64, _)]) ⟨rfl, rfl, rfl, rfl, rfl, rfl, trivial⟩ ?_
         refine QW.then_ ?_
         refine CW.condF rfl ?_
         refine CW.skip (QW.blockN (QW.then_ (CW.region ?_)))
         refine RG.vl rfl rfl rfl (Ev.move rfl rfl) ?_
         refine RG.vl rfl rfl rfl (Ev.addI rfl rfl rfl (by omega)) ?_
         refine RG.vl rfl rfl rfl (Ev.assign rfl rfl) ?_
         refine RG.done ?_
         refine QW.round2 (k + 1) (u) ⟨rfl, rfl, trivial⟩ ⟨rfl, rfl, trivial⟩ ⟨⟨by omega, by rw [drawL_skip s _ k c hc (byte_eq (d := 63) (by assumption))]; exact (own_ext hown hE16), all_snoc _ k c _ hc hall (by rw [byte_eq (c := c) (d := 63) (by assumption)]; rfl)⟩, hxwl10⟩ (by omega)
        ·refine CW.seq (CW.region ?_)
         refine RG.vl rfl rfl rfl (Ev.assign rfl rfl) ?_
         refine RG.vl rfl rfl rfl (Ev.assign rfl rfl) ?_
         refine RG.done ?_
         refine QW.sub (S' := [(1, _), (2, _), (4, _), (5, _), (6, _), (7, _), (8, _)]) ⟨rfl, rfl, rfl, rfl, rfl, rfl, rfl, trivial⟩ ?_
         refine QW.then_ (CW.ret (QW.blockR (QW.thenRet (QW.blockR (QW.thenRet (QW.thenRet ?_))))))
         refine QW.blockR (QW.thenRet ?_)
         refine QW.ret2 rfl rfl rfl ?_
         have hB := (Ex.tr hR8 hxwl10)
         obtain ⟨e1, e2⟩ := drawErr_bad s t.data.toList (by rintro ⟨_, _, h3⟩; have := (List.all_eq_true.1 h3) c (List.mem_of_getElem? hc); rw [okLetter_not ⟨by omega, by omega, by omega, by omega, by omega⟩] at this; cases this)
         exact ⟨_, by rw [e1], by rw [e2]; exact RdL.nil_ _, hB⟩
   ·refine CW.exit (QW.thenExit (QW.thenExit (QW.blockHit (QW.then_ (CW.seq (CW.region ?_))))))
    refine RG.vl rfl rfl rfl (Ev.move rfl rfl) ?_
    refine RG.vl rfl rfl rfl (Ev.assign rfl rfl) ?_
    refine RG.vl rfl rfl rfl (Ev.assign rfl rfl) ?_
    refine RG.done (QW.then_ (CW.ret ?_))
    refine QW.ret2 rfl rfl rfl ?_
    have hB := (Ex.tr hR8 hxwl10)
    have hlz : t.data.toList.length = t.size := Array.length_toList
    have e : k = t.data.toList.length := by omega
    rw [e, List.take_length] at hown hall
    obtain ⟨e1, e2⟩ := drawErr_ok s t.data.toList ⟨hs, by rw [hlz]; omega, hall⟩
    exact ⟨_, by rw [e1], by rw [e2]; exact RdL.of_own Br.c_len hown, hB⟩

end Go.Proofs.YtgjnchjkjdnidaaGreat

/- Walks (VA). Written by program. -/
namespace Go.Proofs.YtgjnchjkjdnidaaGreat
open Go.RowKit
set_option maxRecDepth 100000 in
set_option maxHeartbeats 1000000 in
theorem symb_ret (t : List UInt8) (w : World) (ha : t.all isDg = true) (hlen : t.length ≤ 1000) :
  Ret Tryz.prog 23 [.string ⟨t.toArray⟩] w (fun v w' => Own w' w.heap.size 5 1 encN v (b64 (numT t)) ∧ Ex w w') := by
 have hts := sb_len t
 have hB0 : Ex w w := Ex.rfl_ _
 refine Ret.of Tryz.func23 rfl Tryz.ntmps23 rfl ?_
 refine CW.seq (CW.region ?_)
 refine RG.vl rfl rfl rfl (Ev.assign rfl rfl) ?_
 refine RG.done (QW.then_ (CW.seq (CW.region ?_)))
 refine RG.litO (os := [_]) (enc := encZ) ([1]) rfl rfl rfl rfl rfl rfl rfl Tryz.underlying29 inf_3 rfl rfl rfl rfl rfl encZ_len rfl rfl (fun v1 wk2 hxwk2 hown3 hnew4 => ?_)
 have hE5 := hxwk2
 refine RG.vl rfl rfl rfl (Ev.assign rfl rfl) ?_
 refine RG.done (QW.then_ (CW.seq (CW.seq (CW.region ?_))))
 refine RG.vl rfl rfl rfl (Ev.assign rfl rfl) ?_
 refine RG.done (QW.then_ (CW.block ?_))
 refine CW.loop2 [(0, _), (2, _)] ⟨rfl, rfl, trivial⟩ (fun (i : Nat) (u : Value) => [(4, .int .i64 (i : Int)), (3, u)]) (fun i u w' => (i ≤ t.length ∧ Own w' w.heap.size 3 1 encZ u (dg1s (t.take i))) ∧ Ex w w') (fun i u => t.length - i) (0) (v1) ⟨rfl, rfl, trivial⟩ ⟨⟨Nat.zero_le _, hown3⟩, (Ex.tr hB0 hE5)⟩ ?_
 rintro i u wl6 ⟨⟨hi, hu⟩, hxwl6⟩
 refine CW.sub (S' := [(4, _), (3, _), (0, _), (2, _)]) ⟨rfl, rfl, rfl, rfl, trivial⟩ ?_
 refine CW.seq (CW.seq (CW.region ?_))
 refine RG.vl rfl rfl rfl (Ev.move rfl rfl) ?_
 refine RG.vl rfl rfl rfl (Ev.move rfl rfl) ?_
 refine RG.vl rfl rfl rfl (Ev.lenStr rfl rfl rfl Tryz.underlying9) ?_
 refine RG.vl rfl rfl rfl (Ev.lss rfl rfl rfl) ?_
 refine RG.done (QW.then_ ?_)
 refine CW.condP rfl (fun hc7 => ?_) (fun hc7 => ?_)
 ·refine CW.skip (QW.then_ (CW.seq (CW.block ?_)))
  obtain ⟨c, hc⟩ : ∃ c, t[i]? = some c := ⟨_, List.getElem?_eq_getElem (by omega)⟩
  obtain ⟨hdg1, hdg2⟩ := dgv_is ha hc
  have hc8 := c.toNat_lt
  have hdl := dg1s_len (t.take i)
  rw [List.length_take] at hdl
  refine CW.region ?_
  refine RG.vl rfl rfl rfl (Ev.move rfl rfl) ?_
  refine RG.vl rfl rfl rfl (Ev.move rfl rfl) ?_
  refine RG.vl rfl rfl rfl (Ev.move rfl rfl) ?_
  refine RG.vl rfl rfl rfl (Ev.byteAt rfl rfl rfl Tryz.underlying9 (by omega) (hc)) ?_
  refine RG.vl rfl rfl rfl (Ev.to64 rfl rfl Tryz.underlying5 Tryz.underlying3 (by omega)) ?_
  refine RG.vl rfl rfl rfl ((Ev.subI rfl rfl rfl (by omega)).conv (congrArg (Value.int .i64) (show (c.toNat : Int) - 48 = ((dgv c : Nat) : Int) by omega))) ?_
  refine RG.litO (os := [.tmp 21]) (enc := encZ) ([dgv c]) rfl rfl rfl rfl rfl rfl rfl Tryz.underlying29 inf_3 rfl rfl rfl rfl rfl encZ_len rfl rfl (fun v8 wk9 hxwk9 hown10 hnew11 => ?_)
  have hsep12 : Sep v8 _ := Sep.of_new hu hnew11
  replace hxwl6 := Ex.tr hxwl6 hxwk9
  have hE13 := hxwk9
  refine RG.appO rfl rfl rfl rfl rfl rfl rfl Tryz.underlying29 inf_3 rfl rfl encZ_len (fun _ => rfl) (Own.ext hu hE13) ((hown10.rdl encZ_len)) (by show _ + 1 ≤ maxLen; simp only [maxLen]; omega) (by show (_ + 1) * _ ≤ _; omega) (hxwl6.size) (fun v14 wa15 hown16 hgr17 hat18 => ?_)
  have hsep20 := Sep.app (Sep.symm hsep12) hown10 hat18
  have hown19 := Own.grown hown10 hgr17 (fun k a b => (Sep.symm hsep12) k b a)
  replace hxwl6 := own_block (Own.ext hu hE13) hxwl6 hgr17 (Nat.le_refl _) hxwl6.size
  refine RG.vl rfl rfl rfl (Ev.assign rfl rfl) ?_
  refine RG.done (QW.blockN (QW.then_ (CW.region ?_)))
  refine RG.vl rfl rfl rfl (Ev.move rfl rfl) ?_
  refine RG.vl rfl rfl rfl (Ev.addI rfl rfl rfl (by omega)) ?_
  refine RG.vl rfl rfl rfl (Ev.assign rfl rfl) ?_
  refine RG.done ?_
  refine QW.sub (S' := [(0, _), (2, _), (3, _), (4, _)]) ⟨rfl, rfl, rfl, rfl, trivial⟩ ?_
  refine QW.round2 (i + 1) (v14) ⟨rfl, rfl, trivial⟩ ⟨rfl, rfl, trivial⟩ ⟨⟨by omega, by rw [dg1s_more hc]; exact hown16⟩, (Ex.tr hB0 hxwl6)⟩ (by omega)
 ·refine CW.exit (QW.thenExit (QW.thenExit (QW.blockHit (QW.then_ (CW.seq ?_)))))
  obtain rfl : i = t.length := by omega
  rw [List.take_length] at hu
  refine CW.region ?_
  refine RG.vl rfl rfl rfl (Ev.assign rfl rfl) ?_
  refine RG.done (QW.then_ (CW.seq (CW.seq (CW.region ?_))))
  refine RG.vl rfl rfl rfl (Ev.assign rfl rfl) ?_
  refine RG.done (QW.then_ (CW.block ?_))
  refine CW.loop3 [(2, _), (3, _)] ⟨rfl, rfl, trivial⟩ (fun (k : Nat) (L : List Nat) (y : Value) => [(6, .int .i64 (k : Int)), (5, y)]) (fun k L y w' => (k ≤ 16 ∧ L.length = t.length + 1 ∧ (∀ d ∈ L, d < 10) ∧ vb 10 0 L = numT t / 64 ^ k ∧ Own w' w.heap.size 3 1 encZ u L ∧ Own w' w.heap.size 5 1 encN y (lw k (numT t)) ∧ Sep y u) ∧ Ex w w') (fun k L y => 16 - k) (0) (dg1s t) (.slice none 0 0) ⟨rfl, rfl, trivial⟩ ⟨⟨by omega, dg1s_len t, dg1s_lt ha, by rw [dg1s_vb, Nat.pow_zero, Nat.div_one], hu, Own.nil_ _ _ _ _ _, Sep.nil_ _⟩, (Ex.tr hB0 hxwl6)⟩ ?_
  rintro k L y wl21 ⟨⟨hk, hLl, hLd, hv, hu, hy, hsp⟩, hxwl21⟩
  refine CW.sub (S' := [(6, _), (5, _), (2, _), (3, _)]) ⟨rfl, rfl, rfl, rfl, trivial⟩ ?_
  refine CW.seq (CW.seq (CW.region ?_))
  refine RG.vl rfl rfl rfl (Ev.move rfl rfl) ?_
  refine RG.vl rfl rfl rfl (Ev.lss rfl rfl rfl) ?_
  refine RG.done (QW.then_ ?_)
  refine CW.condP rfl (fun hc22 => ?_) (fun hc22 => ?_)
  ·refine CW.skip (QW.then_ (CW.seq (CW.block (CW.seq (CW.region ?_)))))
   refine RG.vl rfl rfl rfl (Ev.assign rfl rfl) ?_
   refine RG.done (QW.then_ (CW.seq (CW.seq (CW.region ?_))))
   refine RG.vl rfl rfl rfl (Ev.assign rfl rfl) ?_
   refine RG.done (QW.then_ (CW.block ?_))
   refine CW.loop1 [(2, _), (3, _), (5, _), (6, _)] ⟨rfl, rfl, rfl, rfl, trivial⟩ (fun (i : Nat) => [(8, .int .i64 (i : Int)), (7, .int .i64 ((dv 10 64 0 (L.take i)).2 : Int))]) (fun i w' => (i ≤ L.length ∧ Own w' w.heap.size 3 1 encZ u (dvL 10 64 L i) ∧ Own w' w.heap.size 5 1 encN y (lw k (numT t))) ∧ Ex w w') (fun i => L.length - i) (0) ⟨rfl, rfl, trivial⟩ ⟨⟨Nat.zero_le _, hu, hy⟩, (Ex.tr hB0 hxwl21)⟩ ?_
   rintro i wl23 ⟨⟨hi, hu, hy⟩, hxwl23⟩
   refine CW.sub (S' := [(8, _), (7, _), (2, _), (3, _), (5, _), (6, _)]) ⟨rfl, rfl, rfl, rfl, rfl, rfl, trivial⟩ ?_
   refine CW.seq (CW.seq (CW.region ?_))
   refine RG.vl rfl rfl rfl (Ev.move rfl rfl) ?_
   refine RG.vl rfl rfl rfl (Ev.move rfl rfl) ?_
   refine RG.vl rfl rfl rfl (Ev.lenL rfl rfl rfl Tryz.underlying29 ((hu.rdl encZ_len))) ?_
   refine RG.vl rfl rfl rfl (Ev.lss rfl rfl rfl) ?_
   refine RG.done (QW.then_ ?_)
   refine CW.condP rfl (fun hc24 => ?_) (fun hc24 => ?_)
   ·refine CW.skip (QW.then_ (CW.seq (CW.block (CW.seq ?_))))
    have hdl := dvL_len 10 64 L i
    obtain ⟨x, hx⟩ : ∃ x, L[i]? = some x := ⟨_, List.getElem?_eq_getElem (by omega)⟩
    have hx10 := hLd x (List.mem_of_getElem? hx)
    have hr64 := dv_rest 10 (d := 64) (by decide) (L.take i) 0 (by decide)
    have hdt := dv_take (b := 10) (d := 64) hx
    refine CW.region ?_
    refine RG.vl rfl rfl rfl (Ev.move rfl rfl) ?_
    refine RG.vl rfl rfl rfl (Ev.mulI rfl rfl rfl (by omega)) ?_
    refine RG.vl rfl rfl rfl (Ev.move rfl rfl) ?_
    refine RG.vl rfl rfl rfl (Ev.move rfl rfl) ?_
    refine RG.idxO rfl rfl rfl rfl rfl rfl Tryz.underlying29 sz_3 encZ_len (hu) ((dvL_at hx)) (fun g26 hg26 hBg26 hp25b hp25 => ?_)
    refine RG.vl rfl rfl rfl (Ev.ld0 rfl rfl Tryz.underlying3 rfl (hp25) (rfl)) ?_
    refine RG.vl rfl rfl rfl ((Ev.addI rfl rfl rfl (by omega)).conv (congrArg (Value.int .i64) (show (10 : Int) * ((dv 10 64 0 (L.take i)).2 : Int) + (x : Int) = (((10 * (dv 10 64 0 (L.take i)).2 + x) : Nat) : Int) by omega))) ?_
    refine RG.vl rfl rfl rfl (Ev.assign rfl rfl) ?_
    refine RG.done (QW.then_ (CW.seq (CW.region ?_)))
    refine RG.vl rfl rfl rfl (Ev.move rfl rfl) ?_
    refine RG.vl rfl rfl rfl (Ev.move rfl rfl) ?_
    refine RG.vl rfl rfl rfl (Ev.move rfl rfl) ?_
    refine RG.vl rfl rfl rfl ((Ev.quoI rfl rfl rfl (by omega)).conv (congrArg (Value.int .i64) (show (((10 * (dv 10 64 0 (L.take i)).2 + x) : Nat) : Int) / 64 = (((10 * (dv 10 64 0 (L.take i)).2 + x) / 64 : Nat) : Int) by omega))) ?_
    refine RG.idxO rfl rfl rfl rfl rfl rfl Tryz.underlying29 sz_3 encZ_len (hu) ((dvL_at hx)) (fun g28 hg28 hBg28 hp27b hp27 => ?_)
    refine RG.stOw0 (g := g28) ((10 * (dv 10 64 0 (L.take i)).2 + x) / 64) rfl rfl rfl rfl rfl sz_3 rfl (fun _ => rfl) hu hg28 ((dvL_at hx)) rfl (rfl) (fun ws29 hwws29 hown30 => ?_)
    rw [dvL_step hx] at hown30
    replace hy := Own.far hy hwws29 (fun e => (Sep.symm hsp) _ hg28 e)
    replace hxwl23 := Wr.below hxwl23 hwws29 hBg28
    refine RG.done ?_
    refine QW.sub (S' := [(2, _), (3, _), (5, _), (6, _), (7, _), (8, _)]) ⟨rfl, rfl, rfl, rfl, rfl, rfl, trivial⟩ ?_
    refine QW.then_ (CW.region ?_)
    refine RG.vl rfl rfl rfl (Ev.move rfl rfl) ?_
    refine RG.vl rfl rfl rfl ((Ev.remI rfl rfl rfl (by omega)).conv (congrArg (Value.int .i64) (show (((10 * (dv 10 64 0 (L.take i)).2 + x) : Nat) : Int) % 64 = (((10 * (dv 10 64 0 (L.take i)).2 + x) % 64 : Nat) : Int) by omega))) ?_
    refine RG.vl rfl rfl rfl (Ev.assign rfl rfl) ?_
    refine RG.done (QW.blockN (QW.then_ (CW.region ?_)))
    refine RG.vl rfl rfl rfl (Ev.move rfl rfl) ?_
    refine RG.vl rfl rfl rfl (Ev.addI rfl rfl rfl (by omega)) ?_
    refine RG.vl rfl rfl rfl (Ev.assign rfl rfl) ?_
    refine RG.done ?_
    refine QW.round1 (i + 1) ⟨rfl, by rw [hdt]; rfl, trivial⟩ ⟨rfl, rfl, rfl, rfl, trivial⟩ ⟨⟨by omega, hown30, hy⟩, (Ex.tr hB0 hxwl23)⟩ (by omega)
   ·refine CW.exit (QW.thenExit (QW.thenExit (QW.blockHit (QW.then_ ?_))))
    obtain rfl : i = L.length := by have := dvL_len 10 64 L i; omega
    obtain ⟨hq1, hq2⟩ := dv_quo (b := 10) (d := 64) (by decide) L
    have hr64 := dv_rest 10 (d := 64) (by decide) L 0 (by decide)
    rw [dvL_end] at hu
    rw [List.take_length]
    have hlw := lw_len k (numT t)
    refine CW.region ?_
    refine RG.vl rfl rfl rfl (Ev.move rfl rfl) ?_
    refine RG.vl rfl rfl rfl (Ev.to8 rfl rfl Tryz.underlying3 Tryz.underlying5 (by omega)) ?_
    refine RG.litO (os := [.tmp 49]) (enc := encN) ([(dv 10 64 0 L).2]) rfl rfl rfl rfl rfl rfl rfl Tryz.underlying58 inf_5 rfl rfl rfl rfl rfl encN_len rfl rfl (fun v31 wk32 hxwk32 hown33 hnew34 => ?_)
    have hsep35 : Sep v31 _ := Sep.of_new hu hnew34
    have hsep36 : Sep v31 _ := Sep.of_new hy hnew34
    replace hown33 := Own.low (B' := w.heap.size) hown33 (by have := (Ex.tr hB0 hxwl23).size; omega)
    replace hxwl23 := Ex.tr hxwl23 hxwk32
    have hE37 := hxwk32
    refine RG.vl rfl rfl rfl (Ev.move rfl rfl) ?_
    refine RG.appO rfl rfl rfl rfl rfl rfl rfl Tryz.underlying58 inf_5 rfl rfl encN_len (fun _ => rfl) hown33 (((Own.ext hy hE37).rdl encN_len)) (by show 1 + _ ≤ maxLen; simp only [maxLen]; omega) (by show (1 + _) * _ ≤ _; omega) (hxwl23.size) (fun v38 wa39 hown40 hgr41 hat42 => ?_)
    have hsep44 := Sep.app hsep35 (Own.ext hu hE37) hat42
    have hown43 := Own.grown (Own.ext hu hE37) hgr41 (fun k a b => hsep35 k b a)
    have hsep46 := Sep.app hsep36 (Own.ext hy hE37) hat42
    have hown45 := Own.grown (Own.ext hy hE37) hgr41 (fun k a b => hsep36 k b a)
    replace hxwl23 := own_block hown33 hxwl23 hgr41 (Nat.le_refl _) hxwl23.size
    refine RG.vl rfl rfl rfl (Ev.assign rfl rfl) ?_
    refine RG.done (QW.blockN (QW.then_ (CW.region ?_)))
    refine RG.vl rfl rfl rfl (Ev.move rfl rfl) ?_
    refine RG.vl rfl rfl rfl (Ev.addI rfl rfl rfl (by omega)) ?_
    refine RG.vl rfl rfl rfl (Ev.assign rfl rfl) ?_
    refine RG.done ?_
    refine QW.round3 (k + 1) (_) (v38) ⟨rfl, rfl, trivial⟩ ⟨rfl, rfl, trivial⟩ ⟨⟨by omega, by rw [dv_len]; exact hLl, dv_lt (by decide) L 0 (by decide) hLd, by rw [hq1, hv, Nat.div_div_eq_div_mul, ← Nat.pow_succ], hown43, by rw [lw_more, ← hv, ← hq2]; exact hown40, hsep44⟩, (Ex.tr hB0 hxwl23)⟩ (by omega)
  ·refine CW.exit (QW.thenExit (QW.thenExit (QW.blockHit (QW.then_ (CW.seq (CW.region ?_))))))
   refine RG.vl rfl rfl rfl (Ev.move rfl rfl) ?_
   refine RG.vl rfl rfl rfl (Ev.assign rfl rfl) ?_
   refine RG.done (QW.then_ (CW.ret ?_))
   refine QW.ret1 rfl rfl ?_
   have hB := (Ex.tr hB0 hxwl21)
   obtain rfl : k = 16 := by omega
   exact ⟨by rw [← lw_16]; exact hy, hB⟩

set_option maxRecDepth 100000 in
set_option maxHeartbeats 1000000 in
theorem rpay_ret (u : Value) (l : List Nat) (w : World) (hl : RdL w 1 encN u l) (h16 : l.length = 16) (hel : El l) :
  Ret Tryz.prog 36 [u] w (fun v w' => ∃ r, PayT (vb 64 0 l) r ∧ v = .tuple #[.string ⟨(r.getD []).toArray⟩, .bool r.isSome] ∧ Ex w w') := by
 have hN16 : vb 64 0 l < 64 ^ 16 := by have := vb_lt (b := 64) (by decide) hel; rw [h16] at this; exact this
 obtain ⟨N, hN⟩ : ∃ N, vb 64 0 l = N := ⟨_, rfl⟩
 rw [hN] at hN16 ⊢
 have hB0 : Ex w w := Ex.rfl_ _
 refine Ret.of Tryz.func36 rfl Tryz.ntmps36 rfl ?_
 refine CW.seq (CW.region ?_)
 refine RG.vl rfl rfl rfl (Ev.assign rfl rfl) ?_
 refine RG.vl rfl rfl rfl (Ev.assign rfl rfl) ?_
 refine RG.done (QW.then_ (CW.seq (CW.region ?_)))
 refine RG.makeO (m := 40) (enc := encZ) 0 rfl rfl rfl rfl rfl rfl (rfl) Tryz.underlying29 inf_3 encZ_len rfl rfl (by omega) (by simp only [maxLen]; omega) (fun vn wk1 hxwk1 hown2 hnew3 => ?_)
 have hE4 := hxwk1
 refine RG.vl rfl rfl rfl (Ev.assign rfl rfl) ?_
 refine RG.done (QW.then_ (CW.seq (CW.seq (CW.region ?_))))
 refine RG.vl rfl rfl rfl (Ev.assign rfl rfl) ?_
 refine RG.done (QW.then_ (CW.block ?_))
 refine CW.loop1 [(0, _), (2, _), (3, _), (4, _)] ⟨rfl, rfl, rfl, rfl, trivial⟩ (fun (k : Nat) => [(5, .int .i64 (k : Int))]) (fun k w' => (k ≤ 16 ∧ Own w' w.heap.size 3 1 encZ vn (ld 10 40 (vb 64 0 (l.take k)))) ∧ Ex w w') (fun k => 16 - k) (0) ⟨rfl, trivial⟩ ⟨⟨by omega, by rw [List.take_zero, show vb 64 0 [] = 0 from rfl, ld_zero40]; exact hown2⟩, (Ex.tr hB0 hE4)⟩ ?_
 rintro k wl5 ⟨⟨hk, hn⟩, hxwl5⟩
 refine CW.sub (S' := [(5, _), (0, _), (2, _), (3, _), (4, _)]) ⟨rfl, rfl, rfl, rfl, rfl, trivial⟩ ?_
 refine CW.seq (CW.seq (CW.region ?_))
 refine RG.vl rfl rfl rfl (Ev.move rfl rfl) ?_
 refine RG.vl rfl rfl rfl (Ev.lss rfl rfl rfl) ?_
 refine RG.done (QW.then_ ?_)
 refine CW.condP rfl (fun hc6 => ?_) (fun hc6 => ?_)
 ·refine CW.skip (QW.then_ (CW.seq (CW.block (CW.seq ?_))))
  obtain ⟨x, hx⟩ : ∃ x, l[k]? = some x := ⟨_, List.getElem?_eq_getElem (by omega)⟩
  have hx64 := hel x (List.mem_of_getElem? hx)
  obtain ⟨V, hV⟩ : ∃ V, V = vb 64 0 (l.take k) := ⟨_, rfl⟩
  rw [← hV] at hn
  refine CW.region ?_
  refine RG.vl rfl rfl rfl (Ev.move rfl rfl) ?_
  refine RG.vl rfl rfl rfl (Ev.move rfl rfl) ?_
  refine RG.idxL rfl rfl rfl rfl rfl rfl Tryz.underlying58 sz_5 ((hl.ext hxwl5)) (hx) (fun p7 hp7b hp7 => ?_)
  refine RG.vl rfl rfl rfl (Ev.ld0 rfl rfl Tryz.underlying5 rfl (hp7) (rfl)) ?_
  refine RG.vl rfl rfl rfl (Ev.to64 rfl rfl Tryz.underlying5 Tryz.underlying3 (by omega)) ?_
  refine RG.vl rfl rfl rfl (Ev.assign rfl rfl) ?_
  refine RG.done (QW.then_ (CW.seq (CW.region ?_)))
  refine RG.vl rfl rfl rfl (Ev.assign rfl rfl) ?_
  refine RG.done (QW.then_ (CW.block ?_))
  refine CW.loop1 [(0, _), (2, _), (3, _), (4, _), (5, _)] ⟨rfl, rfl, rfl, rfl, rfl, trivial⟩ (fun (i : Nat) => [(7, .int .i64 (i : Int)), (6, .int .i64 (car 10 64 x V i : Int))]) (fun i w' => (i ≤ 40 ∧ Own w' w.heap.size 3 1 encZ vn (mxL V (64 * V + x) i)) ∧ Ex w w') (fun i => 40 - i) (0) ⟨rfl, by rw [car_zero]; rfl, trivial⟩ ⟨⟨Nat.zero_le _, by rw [mxL_zero]; exact hn⟩, (Ex.tr hB0 hxwl5)⟩ ?_
  rintro i wl8 ⟨⟨hi, hn⟩, hxwl8⟩
  refine CW.sub (S' := [(7, _), (6, _), (0, _), (2, _), (3, _), (4, _), (5, _)]) ⟨rfl, rfl, rfl, rfl, rfl, rfl, rfl, trivial⟩ ?_
  refine CW.seq (CW.seq (CW.region ?_))
  refine RG.vl rfl rfl rfl (Ev.move rfl rfl) ?_
  refine RG.vl rfl rfl rfl (Ev.move rfl rfl) ?_
  refine RG.vl rfl rfl rfl (Ev.lenL rfl rfl rfl Tryz.underlying29 ((hn.rdl encZ_len))) ?_
  refine RG.vl rfl rfl rfl (Ev.lss rfl rfl rfl) ?_
  refine RG.done (QW.then_ ?_)
  refine CW.condP rfl (fun hc9 => ?_) (fun hc9 => ?_)
  ·refine CW.skip (QW.then_ (CW.seq (CW.block (CW.seq ?_))))
   have hq : V / 10 ^ i % 10 < 10 := Nat.mod_lt _ (by decide)
   have hc64 := car_le (b := 10) (f := 64) (m := x) (by decide) (by omega) V i
   have hdig := car_dig (b := 10) (by decide) 64 x V i
   have hstp := car_step (b := 10) (by decide) 64 x V i
   have hml := mxL_len V (64 * V + x) i
   refine CW.region ?_
   refine RG.vl rfl rfl rfl (Ev.move rfl rfl) ?_
   refine RG.vl rfl rfl rfl (Ev.move rfl rfl) ?_
   refine RG.vl rfl rfl rfl (Ev.move rfl rfl) ?_
   refine RG.idxO rfl rfl rfl rfl rfl rfl Tryz.underlying29 sz_3 encZ_len (hn) ((mxL_at _ _ (by omega))) (fun g11 hg11 hBg11 hp10b hp10 => ?_)
   refine RG.vl rfl rfl rfl (Ev.ld0 rfl rfl Tryz.underlying3 rfl (hp10) (rfl)) ?_
   refine RG.vl rfl rfl rfl (Ev.mulI rfl rfl rfl (by omega)) ?_
   refine RG.vl rfl rfl rfl ((Ev.addI rfl rfl rfl (by omega)).conv (congrArg (Value.int .i64) (show (car 10 64 x V i : Int) + 64 * ((V / 10 ^ i % 10 : Nat) : Int) = (((car 10 64 x V i + 64 * (V / 10 ^ i % 10)) : Nat) : Int) by omega))) ?_
   refine RG.vl rfl rfl rfl (Ev.assign rfl rfl) ?_
   refine RG.done (QW.then_ (CW.seq (CW.region ?_)))
   refine RG.vl rfl rfl rfl (Ev.move rfl rfl) ?_
   refine RG.vl rfl rfl rfl (Ev.move rfl rfl) ?_
   refine RG.vl rfl rfl rfl (Ev.move rfl rfl) ?_
   refine RG.vl rfl rfl rfl ((Ev.remI rfl rfl rfl (by omega)).conv (congrArg (Value.int .i64) (show (((car 10 64 x V i + 64 * (V / 10 ^ i % 10)) : Nat) : Int) % 10 = (((car 10 64 x V i + 64 * (V / 10 ^ i % 10)) % 10 : Nat) : Int) by omega))) ?_
   refine RG.idxO rfl rfl rfl rfl rfl rfl Tryz.underlying29 sz_3 encZ_len (hn) ((mxL_at _ _ (by omega))) (fun g13 hg13 hBg13 hp12b hp12 => ?_)
   refine RG.stOw0 (g := g13) ((car 10 64 x V i + 64 * (V / 10 ^ i % 10)) % 10) rfl rfl rfl rfl rfl sz_3 rfl (fun _ => rfl) hn hg13 ((mxL_at _ _ (by omega))) rfl (rfl) (fun ws14 hwws14 hown15 => ?_)
   rw [hdig, mxL_step _ _ (by omega)] at hown15
   replace hxwl8 := Wr.below hxwl8 hwws14 hBg13
   refine RG.done ?_
   refine QW.sub (S' := [(0, _), (2, _), (3, _), (4, _), (5, _), (6, _), (7, _)]) ⟨rfl, rfl, rfl, rfl, rfl, rfl, rfl, trivial⟩ ?_
   refine QW.then_ (CW.region ?_)
   refine RG.vl rfl rfl rfl (Ev.move rfl rfl) ?_
   refine RG.vl rfl rfl rfl ((Ev.quoI rfl rfl rfl (by omega)).conv (congrArg (Value.int .i64) (show (((car 10 64 x V i + 64 * (V / 10 ^ i % 10)) : Nat) : Int) / 10 = (((car 10 64 x V i + 64 * (V / 10 ^ i % 10)) / 10 : Nat) : Int) by omega))) ?_
   refine RG.vl rfl rfl rfl (Ev.assign rfl rfl) ?_
   refine RG.done (QW.blockN (QW.then_ (CW.region ?_)))
   refine RG.vl rfl rfl rfl (Ev.move rfl rfl) ?_
   refine RG.vl rfl rfl rfl (Ev.addI rfl rfl rfl (by omega)) ?_
   refine RG.vl rfl rfl rfl (Ev.assign rfl rfl) ?_
   refine RG.done ?_
   refine QW.round1 (i + 1) ⟨rfl, by rw [← hstp]; rfl, trivial⟩ ⟨rfl, rfl, rfl, rfl, rfl, trivial⟩ ⟨⟨by omega, hown15⟩, (Ex.tr hB0 hxwl8)⟩ (by omega)
  ·refine CW.exit (QW.thenExit (QW.thenExit (QW.blockHit (QW.blockN (QW.then_ ?_)))))
   obtain rfl : i = 40 := by have := mxL_len V (64 * V + x) i; omega
   refine CW.region ?_
   refine RG.vl rfl rfl rfl (Ev.move rfl rfl) ?_
   refine RG.vl rfl rfl rfl (Ev.addI rfl rfl rfl (by omega)) ?_
   refine RG.vl rfl rfl rfl (Ev.assign rfl rfl) ?_
   refine RG.done ?_
   refine QW.round1 (k + 1) ⟨rfl, trivial⟩ ⟨rfl, rfl, rfl, rfl, trivial⟩ ⟨⟨by omega, by rw [vb_more hx, ← hV, ← mxL_end V]; exact hn⟩, (Ex.tr hB0 hxwl8)⟩ (by omega)
 ·refine CW.exit (QW.thenExit (QW.thenExit (QW.blockHit (QW.then_ (CW.seq ?_)))))
  obtain rfl : k = 16 := by omega
  rw [List.take_of_length_le (by omega), hN] at hn
  have hld := ld_len 10 40 N
  refine CW.region ?_
  refine RG.vl rfl rfl rfl (Ev.assign rfl rfl) ?_
  refine RG.done (QW.then_ (CW.seq (CW.seq (CW.region ?_))))
  refine RG.vl rfl rfl rfl (Ev.assign rfl rfl) ?_
  refine RG.done (QW.then_ (CW.block ?_))
  replace hl := (hl.ext hxwl5)
  have hR16 := (Ex.tr hB0 hxwl5)
  refine CW.loop1 [(2, _), (3, _), (4, _)] ⟨rfl, rfl, rfl, trivial⟩ (fun (j : Nat) => [(9, .int .i64 (j : Int)), (8, .int .i64 (topV N j))]) (fun j w' => (j ≤ 40) ∧ Ex wl5 w') (fun j => 40 - j) (0) ⟨rfl, rfl, trivial⟩ ⟨Nat.zero_le _, (Ex.rfl_ _)⟩ ?_
  rintro j wl17 ⟨hj, hxwl17⟩
  refine CW.sub (S' := [(9, _), (8, _), (2, _), (3, _), (4, _)]) ⟨rfl, rfl, rfl, rfl, rfl, trivial⟩ ?_
  refine CW.seq (CW.seq (CW.region ?_))
  refine RG.vl rfl rfl rfl (Ev.move rfl rfl) ?_
  refine RG.vl rfl rfl rfl (Ev.move rfl rfl) ?_
  refine RG.vl rfl rfl rfl (Ev.lenL rfl rfl rfl Tryz.underlying29 (((Own.ext hn hxwl17).rdl encZ_len))) ?_
  refine RG.vl rfl rfl rfl (Ev.lss rfl rfl rfl) ?_
  refine RG.done (QW.then_ ?_)
  refine CW.condP rfl (fun hc18 => ?_) (fun hc18 => ?_)
  ·refine CW.skip (QW.then_ (CW.seq (CW.block (CW.seq ?_))))
   have hq : N / 10 ^ j % 10 < 10 := Nat.mod_lt _ (by decide)
   refine CW.region ?_
   refine RG.vl rfl rfl rfl (Ev.move rfl rfl) ?_
   refine RG.vl rfl rfl rfl (Ev.move rfl rfl) ?_
   refine RG.idxO rfl rfl rfl rfl rfl rfl Tryz.underlying29 sz_3 encZ_len ((Own.ext hn hxwl17)) ((ld_get 10 40 N j (by omega))) (fun g20 hg20 hBg20 hp19b hp19 => ?_)
   refine RG.vl rfl rfl rfl (Ev.ld0 rfl rfl Tryz.underlying3 rfl (hp19) (rfl)) ?_
   refine RG.vl rfl rfl rfl (Ev.neI rfl rfl rfl) ?_
   refine RG.done (QW.then_ ?_)
   refine CW.condP rfl (fun hc21 => ?_) (fun hc21 => ?_)
   ·have hz : ¬ N / 10 ^ j % 10 = 0 := by omega
    refine CW.region ?_
    refine RG.vl rfl rfl rfl (Ev.move rfl rfl) ?_
    refine RG.vl rfl rfl rfl (Ev.assign rfl rfl) ?_
    refine RG.done (QW.blockN (QW.then_ (CW.region ?_)))
    refine RG.vl rfl rfl rfl (Ev.move rfl rfl) ?_
    refine RG.vl rfl rfl rfl (Ev.addI rfl rfl rfl (by omega)) ?_
    refine RG.vl rfl rfl rfl (Ev.assign rfl rfl) ?_
    refine RG.done ?_
    refine QW.sub (S' := [(2, _), (3, _), (4, _), (8, _), (9, _)]) ⟨rfl, rfl, rfl, rfl, rfl, trivial⟩ ?_
    refine QW.round1 (j + 1) ⟨rfl, by rw [topV_y hz]; rfl, trivial⟩ ⟨rfl, rfl, rfl, trivial⟩ ⟨by omega, hxwl17⟩ (by omega)
   ·refine CW.skip (QW.blockN (QW.then_ ?_))
    have hz : N / 10 ^ j % 10 = 0 := by omega
    refine CW.region ?_
    refine RG.vl rfl rfl rfl (Ev.move rfl rfl) ?_
    refine RG.vl rfl rfl rfl (Ev.addI rfl rfl rfl (by omega)) ?_
    refine RG.vl rfl rfl rfl (Ev.assign rfl rfl) ?_
    refine RG.done ?_
    refine QW.round1 (j + 1) ⟨rfl, by rw [topV_n hz]; rfl, trivial⟩ ⟨rfl, rfl, rfl, trivial⟩ ⟨by omega, hxwl17⟩ (by omega)
  ·refine CW.exit (QW.thenExit (QW.thenExit (QW.blockHit (QW.then_ (CW.seq (CW.seq ?_))))))
   obtain rfl : j = 40 := by omega
   rcases Int.lt_or_le (topV N 40) 0 with hneg | hpos
   ·refine CW.region ?_
    refine RG.vl rfl rfl rfl (Ev.move rfl rfl) ?_
    refine RG.vl rfl rfl rfl (Ev.isT (Ev.lss rfl rfl rfl) (hneg)) ?_
    refine RG.vl rfl rfl rfl (Ev.move rfl rfl) ?_
    refine RG.pass rfl rfl rfl ?_
    refine RG.pass rfl rfl rfl ?_
    refine RG.vl rfl rfl rfl (Ev.pickT rfl rfl rfl) ?_
    refine RG.vl rfl rfl rfl (Ev.move rfl rfl) ?_
    refine RG.pass rfl rfl rfl ?_
    refine RG.pass rfl rfl rfl ?_
    refine RG.pass rfl rfl rfl ?_
    refine RG.pass rfl rfl rfl ?_
    refine RG.pass rfl rfl rfl ?_
    refine RG.vl rfl rfl rfl (Ev.pickT rfl rfl rfl) ?_
    refine RG.done ?_
    refine QW.sub (S' := [(2, _), (3, _), (4, _), (8, _), (66, _)]) ⟨rfl, rfl, rfl, rfl, rfl, trivial⟩ ?_
    refine QW.then_ ?_
    refine CW.condT rfl ?_
    refine CW.seq (CW.region ?_)
    refine RG.vl rfl rfl rfl (Ev.assign rfl rfl) ?_
    refine RG.vl rfl rfl rfl (Ev.assign rfl rfl) ?_
    refine RG.done (QW.then_ (CW.ret (QW.thenRet ?_)))
    refine QW.ret2 rfl rfl rfl ?_
    have hB := (Ex.tr hR16 hxwl17)
    exact ⟨none, top_no hN16 hneg, rfl, hB⟩
   ·obtain ⟨p, hp⟩ := Int.eq_ofNat_of_zero_le hpos
    obtain ⟨hp28, hp1, hp2, hp3⟩ := top_at hN16 hp
    rw [hp]
    refine CW.region ?_
    refine RG.vl rfl rfl rfl (Ev.move rfl rfl) ?_
    refine RG.vl rfl rfl rfl (Ev.isF (Ev.lss rfl rfl rfl) (by omega)) ?_
    refine RG.vl rfl rfl rfl (Ev.move rfl rfl) ?_
    refine RG.vl rfl rfl rfl (Ev.move rfl rfl) ?_
    refine RG.vl rfl rfl rfl (Ev.isF (Ev.gtr rfl rfl rfl) (by omega)) ?_
    refine RG.vl rfl rfl rfl (Ev.pickF rfl rfl rfl) ?_
    refine RG.vl rfl rfl rfl (Ev.move rfl rfl) ?_
    refine RG.vl rfl rfl rfl (Ev.move rfl rfl) ?_
    refine RG.vl rfl rfl rfl (Ev.move rfl rfl) ?_
    refine RG.idxO rfl rfl rfl rfl rfl rfl Tryz.underlying29 sz_3 encZ_len ((Own.ext hn hxwl17)) ((ld_get 10 40 N p (by omega))) (fun g23 hg23 hBg23 hp22b hp22 => ?_)
    refine RG.vl rfl rfl rfl (Ev.ld0 rfl rfl Tryz.underlying3 rfl (hp22) (rfl)) ?_
    refine RG.vl rfl rfl rfl (Ev.neI rfl rfl rfl) ?_
    refine RG.vl rfl rfl rfl (Ev.pickF rfl rfl rfl) ?_
    refine RG.done ?_
    refine QW.sub (S' := [(2, _), (3, _), (4, _), (8, _), (66, _)]) ⟨rfl, rfl, rfl, rfl, rfl, trivial⟩ ?_
    refine QW.then_ ?_
    refine CW.condP rfl (fun hc24 => ?_) (fun hc24 => ?_)
    ·refine CW.seq (CW.region ?_)
     refine RG.vl rfl rfl rfl (Ev.assign rfl rfl) ?_
     refine RG.vl rfl rfl rfl (Ev.assign rfl rfl) ?_
     refine RG.done (QW.then_ (CW.ret (QW.thenRet ?_)))
     refine QW.ret2 rfl rfl rfl ?_
     have hB := (Ex.tr hR16 hxwl17)
     exact ⟨none, top_none hN16 hp (by omega), rfl, hB⟩
    ·refine CW.skip (QW.then_ (CW.seq (CW.region ?_)))
     refine RG.vl rfl rfl rfl (Ev.assign rfl rfl) ?_
     refine RG.done (QW.then_ (CW.seq (CW.seq (CW.region ?_))))
     refine RG.vl rfl rfl rfl (Ev.move rfl rfl) ?_
     refine RG.vl rfl rfl rfl (Ev.subI rfl rfl rfl (by omega)) ?_
     refine RG.vl rfl rfl rfl (Ev.assign rfl rfl) ?_
     refine RG.done (QW.then_ (CW.block ?_))
     replace hl := (hl.ext hxwl17)
     replace hn := (Own.ext hn hxwl17)
     have hR25 := (Ex.tr hR16 hxwl17)
     have hR26 := hxwl17
     refine CW.loop1 [(2, _), (3, _), (4, _)] ⟨rfl, rfl, rfl, trivial⟩ (fun (q : Nat) => [(11, .int .i64 ((p : Int) - 1 - (q : Int))), (10, .string ⟨(outq N p q).toArray⟩)]) (fun q w' => (q ≤ p) ∧ Ex wl17 w') (fun q => p - q) (0) ⟨congrArg (fun x => some (Value.int .i64 x)) (by omega), rfl, trivial⟩ ⟨Nat.zero_le _, (Ex.rfl_ _)⟩ ?_
     rintro q wl27 ⟨hq, hxwl27⟩
     refine CW.sub (S' := [(11, _), (10, _), (2, _), (3, _), (4, _)]) ⟨rfl, rfl, rfl, rfl, rfl, trivial⟩ ?_
     refine CW.seq (CW.seq (CW.region ?_))
     refine RG.vl rfl rfl rfl (Ev.move rfl rfl) ?_
     refine RG.vl rfl rfl rfl (Ev.geq rfl rfl rfl) ?_
     refine RG.done (QW.then_ ?_)
     refine CW.condP rfl (fun hc28 => ?_) (fun hc28 => ?_)
     ·refine CW.skip (QW.then_ (CW.seq (CW.block ?_)))
      obtain ⟨a, ha⟩ : ∃ a, a = p - 1 - q := ⟨_, rfl⟩
      have hai : (p : Int) - 1 - (q : Int) = (a : Int) := by omega
      rw [hai]
      have hq10 : N / 10 ^ a % 10 < 10 := Nat.mod_lt _ (by decide)
      have hol := outq_len (V := N) (j := p) (q := q) (by omega)
      refine CW.draw [] (.ex) 13 rfl mixed (fun wd29 hxwd29 => ?_)
      replace hxwl27 := Ex.tr hxwl27 hxwd29
      have hE30 := hxwd29
      refine AG.takeW 0 rfl (by kernel_rfl) (by kernel_rfl) rfl rfl rfl (fun _ => Ev.move rfl rfl) ?_
      refine AG.takeW 1 rfl (by kernel_rfl) (by kernel_rfl) rfl rfl rfl (fun _ => Ev.move rfl rfl) ?_
      refine AG.takeW 2 rfl (by kernel_rfl) (by kernel_rfl) rfl rfl rfl (fun _ => Ev.move rfl rfl) ?_
      refine AG.idxO _ 3 rfl (by kernel_rfl) (by kernel_rfl) rfl rfl rfl rfl rfl rfl Tryz.underlying29 sz_3 encZ_len ((Own.ext hn hxwl27)) ((ld_get 10 40 N a (by omega))) (fun g32 hg32 hBg32 hp31b hp31 => ?_)
      refine AG.take 4 rfl (by kernel_rfl) (by kernel_rfl) rfl rfl rfl (fun wq hq => Ev.ld0 rfl rfl Tryz.underlying3 rfl (hp31.ext hq hp31b) (rfl)) ?_
      refine AG.takeW 5 rfl (by kernel_rfl) (by kernel_rfl) rfl rfl rfl (fun _ => Ev.move rfl rfl) ?_
      refine AG.takeW 6 rfl (by kernel_rfl) (by kernel_rfl) rfl rfl rfl (fun _ => Ev.move rfl rfl) ?_
      refine AG.idxO _ 7 rfl (by kernel_rfl) (by kernel_rfl) rfl rfl rfl rfl rfl rfl Tryz.underlying29 sz_3 encZ_len ((Own.ext hn hxwl27)) ((ld_get 10 40 N a (by omega))) (fun g34 hg34 hBg34 hp33b hp33 => ?_)
      refine AG.take 8 rfl (by kernel_rfl) (by kernel_rfl) rfl rfl rfl (fun wq hq => Ev.ld0 rfl rfl Tryz.underlying3 rfl (hp33.ext hq hp33b) (rfl)) ?_
      refine AG.takeW 9 rfl (by kernel_rfl) (by kernel_rfl) rfl rfl rfl (fun _ => (Ev.addI rfl rfl rfl (by omega)).conv (congrArg (Value.int .i64) (show ((N / 10 ^ a % 10 : Nat) : Int) + 1 = ((N / 10 ^ a % 10 + 1 : Nat) : Int) by omega))) ?_
      refine AG.takeW 10 rfl (by kernel_rfl) (by kernel_rfl) rfl rfl rfl (fun _ => (Ev.cutStrK (k1 := .i64) (k2 := .i64) (i := N / 10 ^ a % 10) (j := N / 10 ^ a % 10 + 1) rfl rfl Tryz.underlying9 rfl rfl (by omega) (by show _ ≤ 10; omega)).conv (congrArg Value.string ((bx_cut s10 _ _).trans (by rw [s10_cut (by omega)])))) ?_
      refine AG.takeW 11 rfl (by kernel_rfl) (by kernel_rfl) rfl rfl rfl (fun _ => (Ev.cat rfl rfl rfl (by rw [sb_len]; show _ + 1 ≤ _; omega)).conv (congrArg Value.string (bx_cat _ [dch (N / 10 ^ a % 10)]))) ?_
      refine AG.takeW 12 rfl (by kernel_rfl) (by kernel_rfl) rfl rfl rfl (fun _ => Ev.assign rfl rfl) ?_
      refine AG.done (by kernel_rfl) ?_
      refine QW.sub (S' := [(2, _), (3, _), (4, _), (10, _), (11, _)]) ⟨rfl, rfl, rfl, rfl, rfl, trivial⟩ ?_
      refine QW.blockN (QW.then_ (CW.region ?_))
      refine RG.vl rfl rfl rfl (Ev.move rfl rfl) ?_
      refine RG.vl rfl rfl rfl (Ev.subI rfl rfl rfl (by omega)) ?_
      refine RG.vl rfl rfl rfl (Ev.assign rfl rfl) ?_
      refine RG.done ?_
      refine QW.round1 (q + 1) ⟨congrArg (fun x => some (Value.int .i64 x)) (by omega), by rw [outq_more (by omega), ← ha]; rfl, trivial⟩ ⟨rfl, rfl, rfl, trivial⟩ ⟨by omega, hxwl27⟩ (by omega)
     ·refine CW.exit (QW.thenExit (QW.thenExit (QW.blockHit (QW.then_ (CW.seq (CW.region ?_))))))
      refine RG.vl rfl rfl rfl (Ev.move rfl rfl) ?_
      refine RG.vl rfl rfl rfl (Ev.assign rfl rfl) ?_
      refine RG.vl rfl rfl rfl (Ev.assign rfl rfl) ?_
      refine RG.done (QW.then_ (CW.ret ?_))
      refine QW.ret2 rfl rfl rfl ?_
      have hB := (Ex.tr hR25 hxwl27)
      obtain rfl : q = p := by omega
      rw [outq_end]
      exact ⟨some _, top_some hN16 hp (by omega), rfl, hB⟩

end Go.Proofs.YtgjnchjkjdnidaaGreat

/- Walks (BL). Written by program. -/
namespace Go.Proofs.YtgjnchjkjdnidaaGreat
open Go.RowKit
set_option maxRecDepth 100000 in
set_option maxHeartbeats 1000000 in
theorem bletter_ret (n : Nat) (w : World) (hn : n < 5) :
  Ret Tryz.prog 53 [.int .i64 (n : Int)] w (fun v w' => v = .string ⟨[ltr n].toArray⟩ ∧ Ex w w') := by
 have hB0 : Ex w w := Ex.rfl_ _
 refine Ret.of Tryz.func53 rfl Tryz.ntmps53 rfl ?_
 refine CW.seq (CW.region ?_)
 refine RG.vl rfl rfl rfl (Ev.assign rfl rfl) ?_
 refine RG.done (QW.then_ (CW.seq (CW.region ?_)))
 refine RG.vl rfl rfl rfl (Ev.move rfl rfl) ?_
 refine RG.vl rfl rfl rfl (Ev.move rfl rfl) ?_
 refine RG.vl rfl rfl rfl ((Ev.addI rfl rfl rfl (by omega)).conv (congrArg (Value.int .i64) (show (n : Int) + 1 = ((n + 1 : Nat) : Int) by omega))) ?_
 refine RG.vl rfl rfl rfl ((Ev.cutStr (i := n) (j := n + 1) rfl rfl Tryz.underlying9 rfl rfl (by omega) (by show _ ≤ 5; omega)).conv (congrArg Value.string ((bx_cut s5 n (n + 1)).trans (by rw [s5_cut hn])))) ?_
 refine RG.vl rfl rfl rfl (Ev.assign rfl rfl) ?_
 refine RG.done (QW.then_ (CW.ret ?_))
 refine QW.ret1 rfl rfl ?_
 have hB := hB0
 exact ⟨rfl, hB⟩

set_option maxRecDepth 100000 in
set_option maxHeartbeats 1000000 in
theorem rwrite_ret (wv : Value) (l : List UInt8) (w : World) (hws : RdL w 1 encB wv l) (hlen : l.length ≤ 100000) :
  Ret Tryz.prog 21 [wv] w (fun v w' => v = .tuple #[.string ⟨(writeB l).1.toArray⟩, .int .i64 (writeB l).2] ∧ Ex w w') := by
 obtain ⟨wA, wC, rfl⟩ := hws.shape
 have hB0 : Ex w w := Ex.rfl_ _
 refine Ret.of Tryz.func21 rfl Tryz.ntmps21 rfl ?_
 refine CW.seq (CW.region ?_)
 refine RG.vl rfl rfl rfl (Ev.assign rfl rfl) ?_
 refine RG.vl rfl rfl rfl (Ev.assign rfl rfl) ?_
 refine RG.done (QW.then_ (CW.seq (CW.seq (CW.region ?_))))
 refine RG.vl rfl rfl rfl (Ev.move rfl rfl) ?_
 refine RG.vl rfl rfl rfl (Ev.lenL rfl rfl rfl Tryz.underlying58 (hws)) ?_
 refine RG.vl rfl rfl rfl (Ev.mulI rfl rfl rfl (by omega)) ?_
 refine RG.vl rfl rfl rfl (Ev.gtr rfl rfl rfl) ?_
 refine RG.done (QW.then_ ?_)
 refine CW.condP rfl (fun hc1 => ?_) (fun hc1 => ?_)
 ·refine CW.seq (CW.region ?_)
  refine RG.vl rfl rfl rfl (Ev.assign rfl rfl) ?_
  refine RG.vl rfl rfl rfl (Ev.assign rfl rfl) ?_
  refine RG.done (QW.then_ (CW.ret (QW.thenRet ?_)))
  refine QW.ret2 rfl rfl rfl ?_
  have hB := hB0
  exact ⟨by rw [w_long (by omega)], hB⟩
 ·refine CW.skip (QW.then_ (CW.seq (CW.region ?_)))
  refine RG.vl rfl rfl rfl (Ev.assign rfl rfl) ?_
  refine RG.done (QW.then_ (CW.seq (CW.seq (CW.region ?_))))
  refine RG.vl rfl rfl rfl (Ev.assign rfl rfl) ?_
  refine RG.done (QW.then_ (CW.block ?_))
  refine CW.loop1 [(0, _)] ⟨rfl, trivial⟩ (fun (i : Nat) => [(5, .int .i64 (i : Int)), (4, .string ⟨((l.take i).flatMap w3).toArray⟩)]) (fun i w' => (i ≤ l.length ∧ (l.take i).all (fun s => decide (s.toNat < 64)) = true) ∧ Ex w w') (fun i => l.length - i) (0) ⟨rfl, rfl, trivial⟩ ⟨⟨by omega, rfl⟩, hB0⟩ ?_
  rintro i wl2 ⟨⟨hi, hall⟩, hxwl2⟩
  refine CW.sub (S' := [(5, _), (4, _), (0, _)]) ⟨rfl, rfl, rfl, trivial⟩ ?_
  refine CW.seq (CW.seq (CW.region ?_))
  refine RG.vl rfl rfl rfl (Ev.move rfl rfl) ?_
  refine RG.vl rfl rfl rfl (Ev.move rfl rfl) ?_
  refine RG.vl rfl rfl rfl (Ev.lenL rfl rfl rfl Tryz.underlying58 ((hws.ext hxwl2))) ?_
  refine RG.vl rfl rfl rfl (Ev.lss rfl rfl rfl) ?_
  refine RG.done (QW.then_ ?_)
  refine CW.condP rfl (fun hc3 => ?_) (fun hc3 => ?_)
  ·refine CW.skip (QW.then_ (CW.seq (CW.block (CW.seq ?_))))
   obtain ⟨x, hx⟩ : ∃ x, l[i]? = some x := ⟨_, List.getElem?_eq_getElem (by omega)⟩
   have hx8 := x.toNat_lt
   have hwl := w3s_len (l.take i)
   rw [List.length_take] at hwl
   refine CW.region ?_
   refine RG.vl rfl rfl rfl (Ev.move rfl rfl) ?_
   refine RG.vl rfl rfl rfl (Ev.move rfl rfl) ?_
   refine RG.idxL rfl rfl rfl rfl rfl rfl Tryz.underlying58 sz_5 ((hws.ext hxwl2)) (hx) (fun p4 hp4b hp4 => ?_)
   refine RG.vl rfl rfl rfl (Ev.ld0 rfl rfl Tryz.underlying5 rfl (hp4) (rfl)) ?_
   refine RG.vl rfl rfl rfl (Ev.to64 rfl rfl Tryz.underlying5 Tryz.underlying3 (by omega)) ?_
   refine RG.vl rfl rfl rfl (Ev.assign rfl rfl) ?_
   refine RG.done (QW.then_ (CW.seq (CW.seq (CW.region ?_))))
   refine RG.vl rfl rfl rfl (Ev.move rfl rfl) ?_
   refine RG.vl rfl rfl rfl (Ev.gtr rfl rfl rfl) ?_
   refine RG.done (QW.then_ ?_)
   refine CW.condP rfl (fun hc5 => ?_) (fun hc5 => ?_)
   ·refine CW.seq (CW.region ?_)
    refine RG.vl rfl rfl rfl (Ev.assign rfl rfl) ?_
    refine RG.vl rfl rfl rfl (Ev.assign rfl rfl) ?_
    refine RG.done ?_
    refine QW.sub (S' := [(0, _), (2, _), (3, _), (4, _), (5, _), (6, _)]) ⟨rfl, rfl, rfl, rfl, rfl, rfl, trivial⟩ ?_
    refine QW.then_ (CW.ret (QW.thenRet (QW.blockR (QW.thenRet (QW.thenRet (QW.blockR ?_))))))
    refine QW.thenRet ?_
    refine QW.ret2 rfl rfl rfl ?_
    have hB := (Ex.tr hB0 hxwl2)
    exact ⟨by rw [w_bad (by omega) hx (by omega)], hB⟩
   ·refine CW.skip (QW.then_ (CW.region ?_))
    refine RG.vl rfl rfl rfl (Ev.move rfl rfl) ?_
    refine RG.vl rfl rfl rfl (Ev.move rfl rfl) ?_
    refine RG.vl rfl rfl rfl ((Ev.quoI rfl rfl rfl (by omega)).conv (congrArg (Value.int .i64) (show (x.toNat : Int) / 16 = ((x.toNat / 16 : Nat) : Int) by omega))) ?_
    refine RG.call rfl rfl rfl rfl rfl rfl rfl en_53 (bletter_ret _ _ (by omega)) ?_
    rintro _ w6 ⟨rfl, hx6⟩
    replace hxwl2 := Ex.tr hxwl2 hx6
    have hE7 := hx6
    refine RG.vl rfl rfl rfl ((Ev.cat rfl rfl rfl (by rw [sb_len, sb_len]; (repeat rw [List.length_append]); simp only [List.length_singleton]; omega)).conv (congrArg Value.string (bx_cat ((l.take i).flatMap w3) [ltr (x.toNat / 16)]))) ?_
    refine RG.vl rfl rfl rfl (Ev.move rfl rfl) ?_
    refine RG.vl rfl rfl rfl ((Ev.quoI rfl rfl rfl (by omega)).conv (congrArg (Value.int .i64) (show (x.toNat : Int) / 4 = ((x.toNat / 4 : Nat) : Int) by omega))) ?_
    refine RG.vl rfl rfl rfl ((Ev.remI rfl rfl rfl (by omega)).conv (congrArg (Value.int .i64) (show ((x.toNat / 4 : Nat) : Int) % 4 = ((x.toNat / 4 % 4 : Nat) : Int) by omega))) ?_
    refine RG.call rfl rfl rfl rfl rfl rfl rfl en_53 (bletter_ret _ _ (by omega)) ?_
    rintro _ w8 ⟨rfl, hx8⟩
    replace hxwl2 := Ex.tr hxwl2 hx8
    replace hE7 := Ex.tr hE7 hx8
    have hE9 := hx8
    refine RG.vl rfl rfl rfl ((Ev.cat rfl rfl rfl (by rw [sb_len, sb_len]; (repeat rw [List.length_append]); simp only [List.length_singleton]; omega)).conv (congrArg Value.string (bx_cat ((l.take i).flatMap w3 ++ [ltr (x.toNat / 16)]) [ltr (x.toNat / 4 % 4)]))) ?_
    refine RG.vl rfl rfl rfl (Ev.move rfl rfl) ?_
    refine RG.vl rfl rfl rfl ((Ev.remI rfl rfl rfl (by omega)).conv (congrArg (Value.int .i64) (show (x.toNat : Int) % 4 = ((x.toNat % 4 : Nat) : Int) by omega))) ?_
    refine RG.call rfl rfl rfl rfl rfl rfl rfl en_53 (bletter_ret _ _ (by omega)) ?_
    rintro _ w10 ⟨rfl, hx10⟩
    replace hxwl2 := Ex.tr hxwl2 hx10
    replace hE7 := Ex.tr hE7 hx10
    replace hE9 := Ex.tr hE9 hx10
    have hE11 := hx10
    refine RG.vl rfl rfl rfl ((Ev.cat rfl rfl rfl (by rw [sb_len, sb_len]; (repeat rw [List.length_append]); simp only [List.length_singleton]; omega)).conv (congrArg Value.string (show _ = (⟨((l.take (i + 1)).flatMap w3).toArray⟩ : ByteArray) by rw [bx_cat, w3_more hx]; simp [w3]))) ?_
    refine RG.vl rfl rfl rfl (Ev.assign rfl rfl) ?_
    refine RG.done ?_
    refine QW.sub (S' := [(0, _), (4, _), (5, _)]) ⟨rfl, rfl, rfl, trivial⟩ ?_
    refine QW.blockN (QW.then_ (CW.region ?_))
    refine RG.vl rfl rfl rfl (Ev.move rfl rfl) ?_
    refine RG.vl rfl rfl rfl (Ev.addI rfl rfl rfl (by omega)) ?_
    refine RG.vl rfl rfl rfl (Ev.assign rfl rfl) ?_
    refine RG.done ?_
    refine QW.round1 (i + 1) ⟨rfl, rfl, trivial⟩ ⟨rfl, trivial⟩ ⟨⟨by omega, sym_more hx hall (by omega)⟩, (Ex.tr hB0 hxwl2)⟩ (by omega)
  ·refine CW.exit (QW.thenExit (QW.thenExit (QW.blockHit (QW.then_ (CW.seq (CW.region ?_))))))
   refine RG.vl rfl rfl rfl (Ev.move rfl rfl) ?_
   refine RG.vl rfl rfl rfl (Ev.assign rfl rfl) ?_
   refine RG.vl rfl rfl rfl (Ev.assign rfl rfl) ?_
   refine RG.done (QW.then_ (CW.ret ?_))
   refine QW.ret2 rfl rfl rfl ?_
   have hB := (Ex.tr hB0 hxwl2)
   obtain rfl : i = l.length := by omega
   rw [List.take_length] at hall ⊢
   exact ⟨by rw [w_ok (by omega) hall], hB⟩

end Go.Proofs.YtgjnchjkjdnidaaGreat

/- Walks (BO). Written by program. -/
namespace Go.Proofs.YtgjnchjkjdnidaaGreat
open Go.RowKit
set_option maxRecDepth 100000 in
set_option maxHeartbeats 1000000 in
theorem bnumber_ret (c : UInt8) (w : World)  :
  Ret Tryz.prog 75 [.int .u8 (c.toNat : Int)] w (fun v w' => v = .int .i64 (numR c : Int) ∧ Ex w w') := by
 have hB0 : Ex w w := Ex.rfl_ _
 refine Ret.of Tryz.func75 rfl Tryz.ntmps75 rfl ?_
 refine CW.seq (CW.region ?_)
 refine RG.vl rfl rfl rfl (Ev.assign rfl rfl) ?_
 refine RG.done (QW.then_ (CW.seq (CW.seq (CW.region ?_))))
 refine RG.vl rfl rfl rfl (Ev.move rfl rfl) ?_
 refine RG.vl rfl rfl rfl (Ev.eqI rfl rfl rfl) ?_
 refine RG.done (QW.then_ ?_)
 refine CW.condP rfl (fun hc1 => ?_) (fun hc1 => ?_)
 ·refine CW.seq (CW.region ?_)
  refine RG.vl rfl rfl rfl (Ev.assign rfl rfl) ?_
  refine RG.done (QW.then_ (CW.ret (QW.thenRet ?_)))
  refine QW.ret1 rfl rfl ?_
  have hB := hB0
  have hn : 0 = numR c := by unfold numR; repeat (first | rw [if_pos (by omega)] | rw [if_neg (by omega)])
  exact ⟨by rw [← hn]; rfl, hB⟩
 ·refine CW.skip (QW.then_ (CW.seq (CW.seq (CW.region ?_))))
  refine RG.vl rfl rfl rfl (Ev.move rfl rfl) ?_
  refine RG.vl rfl rfl rfl (Ev.eqI rfl rfl rfl) ?_
  refine RG.done (QW.then_ ?_)
  refine CW.condP rfl (fun hc2 => ?_) (fun hc2 => ?_)
  ·refine CW.seq (CW.region ?_)
   refine RG.vl rfl rfl rfl (Ev.assign rfl rfl) ?_
   refine RG.done (QW.then_ (CW.ret (QW.thenRet ?_)))
   refine QW.ret1 rfl rfl ?_
   have hB := hB0
   have hn : 1 = numR c := by unfold numR; repeat (first | rw [if_pos (by omega)] | rw [if_neg (by omega)])
   exact ⟨by rw [← hn]; rfl, hB⟩
  ·refine CW.skip (QW.then_ (CW.seq (CW.seq (CW.region ?_))))
   refine RG.vl rfl rfl rfl (Ev.move rfl rfl) ?_
   refine RG.vl rfl rfl rfl (Ev.eqI rfl rfl rfl) ?_
   refine RG.done (QW.then_ ?_)
   refine CW.condP rfl (fun hc3 => ?_) (fun hc3 => ?_)
   ·refine CW.seq (CW.region ?_)
    refine RG.vl rfl rfl rfl (Ev.assign rfl rfl) ?_
    refine RG.done (QW.then_ (CW.ret (QW.thenRet ?_)))
    refine QW.ret1 rfl rfl ?_
    have hB := hB0
    have hn : 2 = numR c := by unfold numR; repeat (first | rw [if_pos (by omega)] | rw [if_neg (by omega)])
    exact ⟨by rw [← hn]; rfl, hB⟩
   ·refine CW.skip (QW.then_ (CW.seq (CW.seq (CW.region ?_))))
    refine RG.vl rfl rfl rfl (Ev.move rfl rfl) ?_
    refine RG.vl rfl rfl rfl (Ev.eqI rfl rfl rfl) ?_
    refine RG.done (QW.then_ ?_)
    refine CW.condP rfl (fun hc4 => ?_) (fun hc4 => ?_)
    ·refine CW.seq (CW.region ?_)
     refine RG.vl rfl rfl rfl (Ev.assign rfl rfl) ?_
     refine RG.done (QW.then_ (CW.ret (QW.thenRet ?_)))
     refine QW.ret1 rfl rfl ?_
     have hB := hB0
     have hn : 3 = numR c := by unfold numR; repeat (first | rw [if_pos (by omega)] | rw [if_neg (by omega)])
     exact ⟨by rw [← hn]; rfl, hB⟩
    ·refine CW.skip (QW.then_ (CW.seq (CW.seq (CW.region ?_))))
     refine RG.vl rfl rfl rfl (Ev.move rfl rfl) ?_
     refine RG.vl rfl rfl rfl (Ev.eqI rfl rfl rfl) ?_
     refine RG.done (QW.then_ ?_)
     refine CW.condP rfl (fun hc5 => ?_) (fun hc5 => ?_)
     ·refine CW.seq (CW.region ?_)
      refine RG.vl rfl rfl rfl (Ev.assign rfl rfl) ?_
      refine RG.done (QW.then_ (CW.ret (QW.thenRet ?_)))
      refine QW.ret1 rfl rfl ?_
      have hB := hB0
      have hn : 4 = numR c := by unfold numR; repeat (first | rw [if_pos (by omega)] | rw [if_neg (by omega)])
      exact ⟨by rw [← hn]; rfl, hB⟩
     ·refine CW.skip (QW.then_ (CW.seq (CW.region ?_)))
      refine RG.vl rfl rfl rfl (Ev.assign rfl rfl) ?_
      refine RG.done (QW.then_ (CW.ret ?_))
      refine QW.ret1 rfl rfl ?_
      have hB := hB0
      have hn : 5 = numR c := by unfold numR; repeat (first | rw [if_pos (by omega)] | rw [if_neg (by omega)])
      exact ⟨by rw [← hn]; rfl, hB⟩

set_option maxRecDepth 100000 in
set_option maxHeartbeats 1000000 in
theorem berror_ret (t : List UInt8) (m : Nat) (w : World) (hm : m ≤ 100) (hlen : t.length ≤ 100000) :
  Ret Tryz.prog 72 [.string ⟨t.toArray⟩, .int .i64 (m : Int)] w (fun v w' => v = .int .i64 (errB m t) ∧ Ex w w') := by
 have hts := sb_len t
 have hB0 : Ex w w := Ex.rfl_ _
 refine Ret.of Tryz.func72 rfl Tryz.ntmps72 rfl ?_
 refine CW.seq (CW.region ?_)
 refine RG.vl rfl rfl rfl (Ev.assign rfl rfl) ?_
 refine RG.done (QW.then_ (CW.seq (CW.seq (CW.region ?_))))
 refine RG.vl rfl rfl rfl (Ev.move rfl rfl) ?_
 refine RG.vl rfl rfl rfl (Ev.lenStr rfl rfl rfl Tryz.underlying9) ?_
 refine RG.vl rfl rfl rfl (Ev.move rfl rfl) ?_
 refine RG.vl rfl rfl rfl (Ev.addI rfl rfl rfl (by omega)) ?_
 refine RG.vl rfl rfl rfl (Ev.gtr rfl rfl rfl) ?_
 refine RG.done (QW.then_ ?_)
 refine CW.condP rfl (fun hc1 => ?_) (fun hc1 => ?_)
 ·refine CW.seq (CW.region ?_)
  refine RG.vl rfl rfl rfl (Ev.assign rfl rfl) ?_
  refine RG.done (QW.then_ (CW.ret (QW.thenRet ?_)))
  refine QW.ret1 rfl rfl ?_
  have hB := hB0
  exact ⟨by rw [errB_long (by omega)], hB⟩
 ·refine CW.skip (QW.then_ (CW.seq (CW.seq (CW.region ?_))))
  refine RG.vl rfl rfl rfl (Ev.assign rfl rfl) ?_
  refine RG.done (QW.then_ (CW.block ?_))
  refine CW.loop1 [(0, _)] ⟨rfl, trivial⟩ (fun (i : Nat) => [(5, .int .i64 (i : Int))]) (fun i w' => (i ≤ t.length ∧ (t.take i).all isL = true) ∧ Ex w w') (fun i => t.length - i) (0) ⟨rfl, trivial⟩ ⟨⟨by omega, rfl⟩, hB0⟩ ?_
  rintro i wl2 ⟨⟨hi, hall⟩, hxwl2⟩
  refine CW.sub (S' := [(5, _), (0, _)]) ⟨rfl, rfl, trivial⟩ ?_
  refine CW.seq (CW.seq (CW.region ?_))
  refine RG.vl rfl rfl rfl (Ev.move rfl rfl) ?_
  refine RG.vl rfl rfl rfl (Ev.move rfl rfl) ?_
  refine RG.vl rfl rfl rfl (Ev.lenStr rfl rfl rfl Tryz.underlying9) ?_
  refine RG.vl rfl rfl rfl (Ev.lss rfl rfl rfl) ?_
  refine RG.done (QW.then_ ?_)
  refine CW.condP rfl (fun hc3 => ?_) (fun hc3 => ?_)
  ·refine CW.skip (QW.then_ (CW.seq (CW.block (CW.seq ?_))))
   obtain ⟨c, hc⟩ : ∃ c, t[i]? = some c := ⟨_, List.getElem?_eq_getElem (by omega)⟩
   refine CW.region ?_
   refine RG.vl rfl rfl rfl (Ev.move rfl rfl) ?_
   refine RG.vl rfl rfl rfl (Ev.move rfl rfl) ?_
   refine RG.vl rfl rfl rfl (Ev.byteAt rfl rfl rfl Tryz.underlying9 (by omega) (hc)) ?_
   refine RG.call rfl rfl rfl rfl rfl rfl rfl en_75 (bnumber_ret c _) ?_
   rintro _ w4 ⟨rfl, hx4⟩
   replace hxwl2 := Ex.tr hxwl2 hx4
   have hE5 := hx4
   refine RG.vl rfl rfl rfl (Ev.eqI rfl rfl rfl) ?_
   refine RG.done (QW.then_ ?_)
   refine CW.condP rfl (fun hc6 => ?_) (fun hc6 => ?_)
   ·refine CW.seq (CW.region ?_)
    refine RG.vl rfl rfl rfl (Ev.assign rfl rfl) ?_
    refine RG.done (QW.then_ (CW.ret (QW.blockR (QW.thenRet (QW.thenRet (QW.blockR ?_))))))
    refine QW.thenRet ?_
    refine QW.ret1 rfl rfl ?_
    have hB := (Ex.tr hB0 hxwl2)
    exact ⟨by rw [errB_bad (by omega) (all_not hc (numR5 (by omega)))], hB⟩
   ·refine CW.skip (QW.blockN (QW.then_ (CW.region ?_)))
    refine RG.vl rfl rfl rfl (Ev.move rfl rfl) ?_
    refine RG.vl rfl rfl rfl (Ev.addI rfl rfl rfl (by omega)) ?_
    refine RG.vl rfl rfl rfl (Ev.assign rfl rfl) ?_
    refine RG.done ?_
    refine QW.round1 (i + 1) ⟨rfl, trivial⟩ ⟨rfl, trivial⟩ ⟨⟨by omega, all_take hc hall (numR_L (by omega))⟩, (Ex.tr hB0 hxwl2)⟩ (by omega)
  ·refine CW.exit (QW.thenExit (QW.thenExit (QW.blockHit (QW.then_ (CW.seq (CW.region ?_))))))
   refine RG.vl rfl rfl rfl (Ev.assign rfl rfl) ?_
   refine RG.done (QW.then_ (CW.ret ?_))
   refine QW.ret1 rfl rfl ?_
   have hB := (Ex.tr hB0 hxwl2)
   obtain rfl : i = t.length := by omega
   rw [List.take_length] at hall
   exact ⟨by rw [errB_ok (by omega) hall], hB⟩

set_option maxRecDepth 100000 in
set_option maxHeartbeats 1000000 in
theorem rturn_ret (t : List UInt8) (w : World) (hlen : t.length ≤ 1000) :
  Ret Tryz.prog 74 [.string ⟨t.toArray⟩] w (fun v w' => v = .string ⟨(turnL t).toArray⟩ ∧ Ex w w') := by
 have hts := sb_len t
 have hB0 : Ex w w := Ex.rfl_ _
 refine Ret.of Tryz.func74 rfl Tryz.ntmps74 rfl ?_
 refine CW.seq (CW.region ?_)
 refine RG.vl rfl rfl rfl (Ev.assign rfl rfl) ?_
 refine RG.done (QW.then_ (CW.seq (CW.region ?_)))
 refine RG.vl rfl rfl rfl (Ev.assign rfl rfl) ?_
 refine RG.done (QW.then_ (CW.seq (CW.seq (CW.region ?_))))
 refine RG.vl rfl rfl rfl (Ev.assign rfl rfl) ?_
 refine RG.done (QW.then_ (CW.block ?_))
 refine CW.loop1 [(0, _), (2, _)] ⟨rfl, rfl, trivial⟩ (fun (i : Nat) => [(4, .int .i64 (i : Int)), (3, .string ⟨(turnL (t.take i)).toArray⟩)]) (fun i w' => (i ≤ t.length) ∧ Ex w w') (fun i => t.length - i) (0) ⟨rfl, rfl, trivial⟩ ⟨by omega, hB0⟩ ?_
 rintro i wl1 ⟨hi, hxwl1⟩
 refine CW.sub (S' := [(4, _), (3, _), (0, _), (2, _)]) ⟨rfl, rfl, rfl, rfl, trivial⟩ ?_
 refine CW.seq (CW.seq (CW.region ?_))
 refine RG.vl rfl rfl rfl (Ev.move rfl rfl) ?_
 refine RG.vl rfl rfl rfl (Ev.move rfl rfl) ?_
 refine RG.vl rfl rfl rfl (Ev.lenStr rfl rfl rfl Tryz.underlying9) ?_
 refine RG.vl rfl rfl rfl (Ev.lss rfl rfl rfl) ?_
 refine RG.done (QW.then_ ?_)
 refine CW.condP rfl (fun hc2 => ?_) (fun hc2 => ?_)
 ·refine CW.skip (QW.then_ (CW.seq (CW.block (CW.seq ?_))))
  obtain ⟨x, hx⟩ : ∃ x, t[i]? = some x := ⟨_, List.getElem?_eq_getElem (by omega)⟩
  have hone : (t.take (i + 1)).drop i = [x] := by rw [List.take_add_one, hx]; simp [List.drop_append, show i - min i t.length = 0 by omega]
  have htl := turnL_len (t.take i)
  rw [List.length_take] at htl
  refine CW.region ?_
  refine RG.vl rfl rfl rfl (Ev.move rfl rfl) ?_
  refine RG.vl rfl rfl rfl (Ev.move rfl rfl) ?_
  refine RG.vl rfl rfl rfl (Ev.move rfl rfl) ?_
  refine RG.vl rfl rfl rfl ((Ev.addI rfl rfl rfl (by omega)).conv (congrArg (Value.int .i64) (show (i : Int) + 1 = ((i + 1 : Nat) : Int) by omega))) ?_
  refine RG.vl rfl rfl rfl ((Ev.cutStr (i := i) (j := i + 1) rfl rfl Tryz.underlying9 rfl rfl (by omega) (by omega)).conv (congrArg Value.string ((bx_cut t i (i + 1)).trans (by rw [hone])))) ?_
  refine RG.vl rfl rfl rfl (Ev.assign rfl rfl) ?_
  refine RG.done (QW.then_ (CW.seq (CW.seq (CW.region ?_))))
  refine RG.vl rfl rfl rfl (Ev.move rfl rfl) ?_
  refine RG.vl rfl rfl rfl (Ev.eqS rfl rfl rfl) ?_
  refine RG.done (QW.then_ ?_)
  refine CW.condP rfl (fun hc3 => ?_) (fun hc3 => ?_)
  ·refine CW.region ?_
   refine RG.vl rfl rfl rfl (Ev.assign rfl rfl) ?_
   refine RG.done (QW.then_ ?_)
   have hfl : flip x = 68 := by rw [one_eq.1 (show (⟨[x].toArray⟩ : ByteArray) = ⟨[65].toArray⟩ by assumption)]; rfl
   refine CW.region ?_
   refine RG.vl rfl rfl rfl (Ev.move rfl rfl) ?_
   refine RG.vl rfl rfl rfl (Ev.move rfl rfl) ?_
   refine RG.vl rfl rfl rfl ((Ev.cat rfl rfl rfl (by rw [sb_len, sb_len]; show 1 + _ ≤ _; omega)).conv (congrArg Value.string (show _ = (⟨(turnL (t.take (i + 1))).toArray⟩ : ByteArray) from (bx_cat [_] (turnL (t.take i))).trans (by rw [turn_next hx, hfl])))) ?_
   refine RG.vl rfl rfl rfl (Ev.assign rfl rfl) ?_
   refine RG.done ?_
   refine QW.sub (S' := [(0, _), (2, _), (3, _), (4, _)]) ⟨rfl, rfl, rfl, rfl, trivial⟩ ?_
   refine QW.blockN (QW.then_ (CW.region ?_))
   refine RG.vl rfl rfl rfl (Ev.move rfl rfl) ?_
   refine RG.vl rfl rfl rfl (Ev.addI rfl rfl rfl (by omega)) ?_
   refine RG.vl rfl rfl rfl (Ev.assign rfl rfl) ?_
   refine RG.done ?_
   refine QW.round1 (i + 1) ⟨rfl, rfl, trivial⟩ ⟨rfl, rfl, trivial⟩ ⟨by omega, (Ex.tr hB0 hxwl1)⟩ (by omega)
  ·refine CW.seq (CW.region ?_)
   refine RG.vl rfl rfl rfl (Ev.move rfl rfl) ?_
   refine RG.vl rfl rfl rfl (Ev.eqS rfl rfl rfl) ?_
   refine RG.done ?_
   refine QW.sub (S' := [(0, _), (2, _), (3, _), (4, _), (5, _), (20, _)]) ⟨rfl, rfl, rfl, rfl, rfl, rfl, trivial⟩ ?_
   refine QW.then_ ?_
   refine CW.condP rfl (fun hc4 => ?_) (fun hc4 => ?_)
   ·refine CW.region ?_
    refine RG.vl rfl rfl rfl (Ev.assign rfl rfl) ?_
    refine RG.done (QW.then_ ?_)
    have hfl : flip x = 65 := by rw [one_eq.1 (show (⟨[x].toArray⟩ : ByteArray) = ⟨[68].toArray⟩ by assumption)]; rfl
    refine CW.region ?_
    refine RG.vl rfl rfl rfl (Ev.move rfl rfl) ?_
    refine RG.vl rfl rfl rfl (Ev.move rfl rfl) ?_
    refine RG.vl rfl rfl rfl ((Ev.cat rfl rfl rfl (by rw [sb_len, sb_len]; show 1 + _ ≤ _; omega)).conv (congrArg Value.string (show _ = (⟨(turnL (t.take (i + 1))).toArray⟩ : ByteArray) from (bx_cat [_] (turnL (t.take i))).trans (by rw [turn_next hx, hfl])))) ?_
    refine RG.vl rfl rfl rfl (Ev.assign rfl rfl) ?_
    refine RG.done (QW.blockN (QW.then_ (CW.region ?_)))
    refine RG.vl rfl rfl rfl (Ev.move rfl rfl) ?_
    refine RG.vl rfl rfl rfl (Ev.addI rfl rfl rfl (by omega)) ?_
    refine RG.vl rfl rfl rfl (Ev.assign rfl rfl) ?_
    refine RG.done ?_
    refine QW.round1 (i + 1) ⟨rfl, rfl, trivial⟩ ⟨rfl, rfl, trivial⟩ ⟨by omega, (Ex.tr hB0 hxwl1)⟩ (by omega)
   ·refine CW.skip (QW.then_ ?_)
    have hfl : flip x = x := by unfold flip; rw [if_neg (fun e => absurd (one_eq.2 e) (by assumption)), if_neg (fun e => absurd (one_eq.2 e) (by assumption))]
    refine CW.region ?_
    refine RG.vl rfl rfl rfl (Ev.move rfl rfl) ?_
    refine RG.vl rfl rfl rfl (Ev.move rfl rfl) ?_
    refine RG.vl rfl rfl rfl ((Ev.cat rfl rfl rfl (by rw [sb_len, sb_len]; show 1 + _ ≤ _; omega)).conv (congrArg Value.string (show _ = (⟨(turnL (t.take (i + 1))).toArray⟩ : ByteArray) from (bx_cat [_] (turnL (t.take i))).trans (by rw [turn_next hx, hfl])))) ?_
    refine RG.vl rfl rfl rfl (Ev.assign rfl rfl) ?_
    refine RG.done (QW.blockN (QW.then_ (CW.region ?_)))
    refine RG.vl rfl rfl rfl (Ev.move rfl rfl) ?_
    refine RG.vl rfl rfl rfl (Ev.addI rfl rfl rfl (by omega)) ?_
    refine RG.vl rfl rfl rfl (Ev.assign rfl rfl) ?_
    refine RG.done ?_
    refine QW.round1 (i + 1) ⟨rfl, rfl, trivial⟩ ⟨rfl, rfl, trivial⟩ ⟨by omega, (Ex.tr hB0 hxwl1)⟩ (by omega)
 ·refine CW.exit (QW.thenExit (QW.thenExit (QW.blockHit (QW.then_ (CW.seq (CW.region ?_))))))
  refine RG.vl rfl rfl rfl (Ev.move rfl rfl) ?_
  refine RG.vl rfl rfl rfl (Ev.assign rfl rfl) ?_
  refine RG.done (QW.then_ (CW.ret ?_))
  refine QW.ret1 rfl rfl ?_
  have hB := (Ex.tr hB0 hxwl1)
  obtain rfl : i = t.length := by omega
  rw [List.take_length]
  exact ⟨rfl, hB⟩

end Go.Proofs.YtgjnchjkjdnidaaGreat

