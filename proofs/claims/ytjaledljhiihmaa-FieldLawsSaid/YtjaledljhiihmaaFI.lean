/- Walks (FI). Written by program. -/
import Derived.Test.YtjaledljhiihmaaT
import Derived.Test.YtjaledljhiihmaaFH
namespace Go.Proofs.Ytjaledljhiihmaa
open Go.RowKit
set_option maxRecDepth 100000 in
set_option maxHeartbeats 4000000 in
theorem fieldLaws_ret (x0 y0 z0 : Int) (w : World) (hx : 0 ≤ x0 ∧ x0 ≤ 255) (hy : 0 ≤ y0 ∧ y0 ≤ 255) (hz : 0 ≤ z0 ∧ z0 ≤ 255) :
    Ret Try.prog 6 [.int .u8 x0, .int .u8 y0, .int .u8 z0] w (fun v w' => v = .bool true ∧ Ex w w') := by
  obtain ⟨x, rfl⟩ : ∃ a : Nat, x0 = (a : Int) := ⟨x0.toNat, by omega⟩
  obtain ⟨y, rfl⟩ : ∃ a : Nat, y0 = (a : Int) := ⟨y0.toNat, by omega⟩
  obtain ⟨z, rfl⟩ : ∃ a : Nat, z0 = (a : Int) := ⟨z0.toNat, by omega⟩
  have hA : (x % 64) < 64 := by omega
  have hB6 : (y % 64) < 64 := by omega
  have hC : (z % 64) < 64 := by omega
  have hab := gm_lt (x % 64) (y % 64)
  have hbc := gm_lt (y % 64) (z % 64)
  have hac := gm_lt (x % 64) (z % 64)
  have hs := xor_lt64 _ _ hB6 hC
  have hB0 : Ex w w := Ex.rfl_ _
  refine Ret.of Try.func6 rfl Try.ntmps6 rfl ?_
  refine CW.seq ?_
  refine CW.region ?_
  refine RG.vl rfl rfl rfl (Ev.assign rfl rfl) ?_
  refine RG.done ?_
  refine QW.then_ ?_
  refine CW.seq ?_
  refine CW.region ?_
  refine RG.vl rfl rfl rfl (Ev.move rfl rfl) ?_
  refine RG.vl rfl rfl rfl ((Ev.rem8 rfl rfl rfl (by omega)).conv (congrArg (Value.int .u8) (show (x : Int) % 64 = ((x % 64 : Nat) : Int) by omega))) ?_
  refine RG.vl rfl rfl rfl (Ev.move rfl rfl) ?_
  refine RG.vl rfl rfl rfl ((Ev.rem8 rfl rfl rfl (by omega)).conv (congrArg (Value.int .u8) (show (y : Int) % 64 = ((y % 64 : Nat) : Int) by omega))) ?_
  refine RG.vl rfl rfl rfl (Ev.move rfl rfl) ?_
  refine RG.vl rfl rfl rfl ((Ev.rem8 rfl rfl rfl (by omega)).conv (congrArg (Value.int .u8) (show (z : Int) % 64 = ((z % 64 : Nat) : Int) by omega))) ?_
  refine RG.vl rfl rfl rfl (Ev.assign rfl rfl) ?_
  refine RG.vl rfl rfl rfl (Ev.assign rfl rfl) ?_
  refine RG.vl rfl rfl rfl (Ev.assign rfl rfl) ?_
  refine RG.done ?_
  refine QW.then_ ?_
  refine CW.seq ?_
  refine CW.region ?_
  refine RG.local_ rfl rfl rfl rfl (fun _ => rfl) rfl rfl (fun _ => rfl) inf_4 rfl rfl rfl (fun gK w1 egK hx1 hb1 => ?_)
  have hle2 : w.heap.size ≤ gK := by have := (Ex.rfl_ w).size; omega
  have hE3 := hx1
  refine RG.done ?_
  refine QW.then_ ?_
  refine CW.seq ?_
  refine CW.region ?_
  refine RG.vl rfl rfl rfl (Ev.move rfl rfl) ?_
  refine RG.vl rfl rfl rfl (Ev.move rfl rfl) ?_
  refine RG.call rfl rfl rfl rfl rfl rfl rfl en_12 (times_ret (x % 64) (y % 64) gK _ (by omega) (by omega) hb1) ?_
  rintro _ w4 ⟨rfl, w4a, hxw4a, hww4, hbw4⟩
  replace hE3 := Ex.tr hE3 hxw4a
  have hE5 := hxw4a
  replace hE3 := Wr.below hE3 hww4 hle2
  refine RG.vl rfl rfl rfl (Ev.move rfl rfl) ?_
  refine RG.vl rfl rfl rfl (Ev.move rfl rfl) ?_
  refine RG.call rfl rfl rfl rfl rfl rfl rfl en_12 (times_ret (y % 64) (z % 64) gK _ (by omega) (by omega) hbw4) ?_
  rintro _ w6 ⟨rfl, w6a, hxw6a, hww6, hbw6⟩
  replace hE3 := Ex.tr hE3 hxw6a
  have hE7 := hxw6a
  replace hE3 := Wr.below hE3 hww6 hle2
  refine RG.vl rfl rfl rfl (Ev.assign rfl rfl) ?_
  refine RG.vl rfl rfl rfl (Ev.assign rfl rfl) ?_
  refine RG.done ?_
  refine QW.sub (S' := [(6, _), (7, _), (8, _), (9, _), (10, _), (11, _), (12, _)]) ⟨rfl, rfl, rfl, rfl, rfl, rfl, rfl, trivial⟩ ?_
  refine QW.then_ ?_
  refine CW.seq ?_
  refine CW.region ?_
  refine RG.vl rfl rfl rfl (Ev.move rfl rfl) ?_
  refine RG.vl rfl rfl rfl (Ev.move rfl rfl) ?_
  refine RG.call rfl rfl rfl rfl rfl rfl rfl en_14 (Add_el (y % 64) (z % 64) _ hB6 hC) ?_
  rintro _ w8 ⟨rfl, hx8⟩
  replace hE3 := Ex.tr hE3 hx8
  have hE9 := hx8
  refine RG.vl rfl rfl rfl (Ev.move rfl rfl) ?_
  refine RG.vl rfl rfl rfl (Ev.extract rfl rfl rfl) ?_
  refine RG.vl rfl rfl rfl (Ev.extract rfl rfl rfl) ?_
  refine RG.vl rfl rfl rfl (Ev.assign rfl rfl) ?_
  refine RG.vl rfl rfl rfl (Ev.assign rfl rfl) ?_
  refine RG.done ?_
  refine QW.then_ ?_
  refine CW.seq ?_
  refine CW.region ?_
  refine RG.vl rfl rfl rfl (Ev.move rfl rfl) ?_
  refine RG.vl rfl rfl rfl (Ev.move rfl rfl) ?_
  refine RG.call rfl rfl rfl rfl rfl rfl rfl en_12 (times_ret (x % 64) (z % 64) gK _ (by omega) (by omega) (hbw6.ext hE9)) ?_
  rintro _ w10 ⟨rfl, w10a, hxw10a, hww10, hbw10⟩
  replace hE3 := Ex.tr hE3 hxw10a
  replace hE9 := Ex.tr hE9 hxw10a
  replace hE3 := Wr.below hE3 hww10 hle2
  refine RG.vl rfl rfl rfl (Ev.assign rfl rfl) ?_
  refine RG.done ?_
  refine QW.then_ ?_
  refine CW.seq ?_
  refine CW.region ?_
  refine RG.vl rfl rfl rfl (Ev.move rfl rfl) ?_
  refine RG.vl rfl rfl rfl (Ev.move rfl rfl) ?_
  refine RG.call rfl rfl rfl rfl rfl rfl rfl en_14 (Add_el (x % 64) (x % 64) _ hA hA) ?_
  rintro _ w11 ⟨rfl, hx11⟩
  replace hE3 := Ex.tr hE3 hx11
  have hE12 := hx11
  refine RG.vl rfl rfl rfl (Ev.move rfl rfl) ?_
  refine RG.vl rfl rfl rfl (Ev.extract rfl rfl rfl) ?_
  refine RG.vl rfl rfl rfl (Ev.extract rfl rfl rfl) ?_
  refine RG.vl rfl rfl rfl (Ev.assign rfl rfl) ?_
  refine RG.vl rfl rfl rfl (Ev.assign rfl rfl) ?_
  refine RG.done ?_
  refine QW.sub (S' := [(6, _), (7, _), (8, _), (9, _), (10, _), (11, _), (12, _), (13, _), (14, _), (15, _), (16, _), (17, _)]) ⟨rfl, rfl, rfl, rfl, rfl, rfl, rfl, rfl, rfl, rfl, rfl, rfl, trivial⟩ ?_
  refine QW.then_ ?_
  refine CW.seq ?_
  refine CW.seq ?_
  refine CW.region ?_
  refine RG.vl rfl rfl rfl (Ev.move rfl rfl) ?_
  refine RG.vl rfl rfl rfl (Ev.isF (Ev.neI rfl rfl rfl) (by decide)) ?_
  refine RG.vl rfl rfl rfl (Ev.move rfl rfl) ?_
  refine RG.vl rfl rfl rfl (Ev.move rfl rfl) ?_
  refine RG.vl rfl rfl rfl (Ev.isF (Ev.neI rfl rfl rfl) (by decide)) ?_
  refine RG.vl rfl rfl rfl (Ev.pickF rfl rfl rfl) ?_
  refine RG.vl rfl rfl rfl (Ev.move rfl rfl) ?_
  refine RG.vl rfl rfl rfl (Ev.move rfl rfl) ?_
  refine RG.vl rfl rfl rfl (Ev.isF (Ev.neI rfl rfl rfl) (by rw [Nat.xor_self]; decide)) ?_
  refine RG.vl rfl rfl rfl (Ev.pickF rfl rfl rfl) ?_
  refine RG.vl rfl rfl rfl (Ev.move rfl rfl) ?_
  refine RG.vl rfl rfl rfl (Ev.move rfl rfl) ?_
  refine RG.vl rfl rfl rfl (Ev.move rfl rfl) ?_
  refine RG.vl rfl rfl rfl (Ev.move rfl rfl) ?_
  refine RG.call rfl rfl rfl rfl rfl rfl rfl en_12 (times_ret (y % 64) (x % 64) gK _ (by omega) (by omega) (hbw10.ext hE12)) ?_
  rintro _ w13 ⟨rfl, w13a, hxw13a, hww13, hbw13⟩
  replace hE3 := Ex.tr hE3 hxw13a
  replace hE12 := Ex.tr hE12 hxw13a
  replace hE3 := Wr.below hE3 hww13 hle2
  refine RG.vl rfl rfl rfl (Ev.isF (Ev.neI rfl rfl rfl) (by rw [gm_comm (x % 64) (y % 64)]; exact fun h => h rfl)) ?_
  refine RG.vl rfl rfl rfl (Ev.pickF rfl rfl rfl) ?_
  refine RG.vl rfl rfl rfl (Ev.move rfl rfl) ?_
  refine RG.vl rfl rfl rfl (Ev.move rfl rfl) ?_
  refine RG.vl rfl rfl rfl (Ev.move rfl rfl) ?_
  refine RG.call rfl rfl rfl rfl rfl rfl rfl en_12 (times_ret (gm (x % 64) (y % 64)) (z % 64) gK _ (by omega) (by omega) hbw13) ?_
  rintro _ w14 ⟨rfl, w14a, hxw14a, hww14, hbw14⟩
  replace hE3 := Ex.tr hE3 hxw14a
  have hE15 := hxw14a
  replace hE3 := Wr.below hE3 hww14 hle2
  refine RG.vl rfl rfl rfl (Ev.move rfl rfl) ?_
  refine RG.vl rfl rfl rfl (Ev.move rfl rfl) ?_
  refine RG.call rfl rfl rfl rfl rfl rfl rfl en_12 (times_ret (x % 64) (gm (y % 64) (z % 64)) gK _ (by omega) (by omega) hbw14) ?_
  rintro _ w16 ⟨rfl, w16a, hxw16a, hww16, hbw16⟩
  replace hE3 := Ex.tr hE3 hxw16a
  have hE17 := hxw16a
  replace hE3 := Wr.below hE3 hww16 hle2
  refine RG.vl rfl rfl rfl (Ev.isF (Ev.neI rfl rfl rfl) (by rw [gm_assoc]; exact fun h => h rfl)) ?_
  refine RG.vl rfl rfl rfl (Ev.pickF rfl rfl rfl) ?_
  refine RG.vl rfl rfl rfl (Ev.move rfl rfl) ?_
  refine RG.vl rfl rfl rfl (Ev.move rfl rfl) ?_
  refine RG.vl rfl rfl rfl (Ev.move rfl rfl) ?_
  refine RG.call rfl rfl rfl rfl rfl rfl rfl en_12 (times_ret (x % 64) ((y % 64) ^^^ (z % 64)) gK _ (by omega) (by omega) hbw16) ?_
  rintro _ w18 ⟨rfl, w18a, hxw18a, hww18, hbw18⟩
  replace hE3 := Ex.tr hE3 hxw18a
  have hE19 := hxw18a
  replace hE3 := Wr.below hE3 hww18 hle2
  refine RG.vl rfl rfl rfl (Ev.move rfl rfl) ?_
  refine RG.vl rfl rfl rfl (Ev.move rfl rfl) ?_
  refine RG.vl rfl rfl rfl (Ev.xor8 rfl rfl rfl (by omega) (by omega)) ?_
  refine RG.vl rfl rfl rfl (Ev.isF (Ev.neI rfl rfl rfl) (by rw [gm_xor _ _ _ hA hB6 hC]; exact fun h => h rfl)) ?_
  refine RG.vl rfl rfl rfl (Ev.pickF rfl rfl rfl) ?_
  refine RG.vl rfl rfl rfl (Ev.move rfl rfl) ?_
  refine RG.vl rfl rfl rfl (Ev.move rfl rfl) ?_
  refine RG.call rfl rfl rfl rfl rfl rfl rfl en_12 (times_ret (x % 64) 1 gK _ (by omega) (by omega) hbw18) ?_
  rintro _ w20 ⟨rfl, w20a, hxw20a, hww20, hbw20⟩
  replace hE3 := Ex.tr hE3 hxw20a
  have hE21 := hxw20a
  replace hE3 := Wr.below hE3 hww20 hle2
  refine RG.vl rfl rfl rfl (Ev.move rfl rfl) ?_
  refine RG.vl rfl rfl rfl (Ev.isF (Ev.neI rfl rfl rfl) (by rw [gm_one _ hA]; exact fun h => h rfl)) ?_
  refine RG.vl rfl rfl rfl (Ev.pickF rfl rfl rfl) ?_
  refine RG.vl rfl rfl rfl (Ev.move rfl rfl) ?_
  refine RG.vl rfl rfl rfl (Ev.move rfl rfl) ?_
  refine RG.call rfl rfl rfl rfl rfl rfl rfl en_12 (times_ret (x % 64) 0 gK _ (by omega) (by omega) hbw20) ?_
  rintro _ w22 ⟨rfl, w22a, hxw22a, hww22, hbw22⟩
  replace hE3 := Ex.tr hE3 hxw22a
  have hE23 := hxw22a
  replace hE3 := Wr.below hE3 hww22 hle2
  refine RG.vl rfl rfl rfl (Ev.isF (Ev.neI rfl rfl rfl) (by rw [gm_zr]; decide)) ?_
  refine RG.vl rfl rfl rfl (Ev.pickF rfl rfl rfl) ?_
  refine RG.vl rfl rfl rfl (Ev.move rfl rfl) ?_
  refine RG.vl rfl rfl rfl (Ev.move rfl rfl) ?_
  refine RG.vl rfl rfl rfl (Ev.isF (Ev.geq rfl rfl rfl) (by omega)) ?_
  refine RG.vl rfl rfl rfl (Ev.pickF rfl rfl rfl) ?_
  refine RG.done ?_
  refine QW.sub (S' := [(6, _), (7, _), (8, _), (10, _), (11, _), (104, _)]) ⟨rfl, rfl, rfl, rfl, rfl, rfl, trivial⟩ ?_
  refine QW.then_ ?_
  refine CW.condF rfl ?_
  refine CW.skip ?_
  refine QW.then_ ?_
  refine CW.seq ?_
  refine CW.seq ?_
  refine CW.region ?_
  refine RG.vl rfl rfl rfl (Ev.move rfl rfl) ?_
  refine RG.vl rfl rfl rfl (Ev.neI rfl rfl rfl) ?_
  refine RG.done ?_
  refine QW.then_ ?_
  refine CW.condP rfl (fun hc24 => ?_) (fun hc24 => ?_)
  · refine CW.seq ?_
    have hA0 : (x % 64) ≠ 0 := by omega
    refine CW.region ?_
    refine RG.vl rfl rfl rfl (Ev.move rfl rfl) ?_
    refine RG.call rfl rfl rfl rfl rfl rfl rfl en_16 (Inv_el (x % 64) _ hA hA0) ?_
    rintro _ w25 ⟨rfl, hx25⟩
    replace hE3 := Ex.tr hE3 hx25
    have hE26 := hx25
    refine RG.vl rfl rfl rfl (Ev.move rfl rfl) ?_
    refine RG.vl rfl rfl rfl (Ev.extract rfl rfl rfl) ?_
    refine RG.vl rfl rfl rfl (Ev.extract rfl rfl rfl) ?_
    refine RG.vl rfl rfl rfl (Ev.assign rfl rfl) ?_
    refine RG.vl rfl rfl rfl (Ev.assign rfl rfl) ?_
    refine RG.done ?_
    refine QW.then_ ?_
    refine CW.seq ?_
    refine CW.region ?_
    refine RG.vl rfl rfl rfl (Ev.move rfl rfl) ?_
    refine RG.vl rfl rfl rfl (Ev.isF (Ev.neI rfl rfl rfl) (by decide)) ?_
    refine RG.vl rfl rfl rfl (Ev.move rfl rfl) ?_
    refine RG.vl rfl rfl rfl (Ev.move rfl rfl) ?_
    refine RG.vl rfl rfl rfl (Ev.move rfl rfl) ?_
    refine RG.call rfl rfl rfl rfl rfl rfl rfl en_12 (times_ret (x % 64) (pwr (x % 64) (-1)) gK _ (hA) ((pwr_lt _ _ hA0).2) (hbw22.ext hE26)) ?_
    rintro _ w27 ⟨rfl, w27a, hxw27a, hww27, hbw27⟩
    replace hE3 := Ex.tr hE3 hxw27a
    replace hE26 := Ex.tr hE26 hxw27a
    replace hE3 := Wr.below hE3 hww27 hle2
    refine RG.vl rfl rfl rfl (Ev.isF (Ev.neI rfl rfl rfl) (by rw [pwr_inv _ hA hA0]; decide)) ?_
    refine RG.vl rfl rfl rfl (Ev.pickF rfl rfl rfl) ?_
    refine RG.done ?_
    refine QW.sub (S' := [(6, _), (7, _), (8, _), (10, _), (11, _), (119, _)]) ⟨rfl, rfl, rfl, rfl, rfl, rfl, trivial⟩ ?_
    refine QW.then_ ?_
    refine CW.condF rfl ?_
    refine CW.skip ?_
    refine QW.then_ ?_
    refine CW.seq ?_
    refine CW.seq ?_
    refine CW.region ?_
    refine RG.vl rfl rfl rfl (Ev.move rfl rfl) ?_
    refine RG.vl rfl rfl rfl (Ev.isT (Ev.neI rfl rfl rfl) (by omega)) ?_
    refine RG.vl rfl rfl rfl (Ev.move rfl rfl) ?_
    refine RG.vl rfl rfl rfl (Ev.move rfl rfl) ?_
    refine RG.vl rfl rfl rfl (Ev.neI rfl rfl rfl) ?_
    refine RG.vl rfl rfl rfl (Ev.pickT rfl rfl rfl) ?_
    refine RG.done ?_
    refine QW.then_ ?_
    refine CW.condP rfl (fun hc28 => ?_) (fun hc28 => ?_)
    · refine CW.seq ?_
      have hBn : (y % 64) ≠ 0 := by omega
      have hab0 := gm_ne (x % 64) (y % 64) hA0 hBn
      have hla := lg_lt (x % 64) hA
      have hlb := lg_lt (y % 64) hB6
      refine CW.region ?_
      refine RG.vl rfl rfl rfl (Ev.move rfl rfl) ?_
      refine RG.call rfl rfl rfl rfl rfl rfl rfl en_17 (Log_el (x % 64) _ hA hA0) ?_
      rintro _ w29 ⟨rfl, hx29⟩
      replace hE3 := Ex.tr hE3 hx29
      have hE30 := hx29
      refine RG.vl rfl rfl rfl (Ev.move rfl rfl) ?_
      refine RG.vl rfl rfl rfl (Ev.extract rfl rfl rfl) ?_
      refine RG.vl rfl rfl rfl (Ev.extract rfl rfl rfl) ?_
      refine RG.vl rfl rfl rfl (Ev.assign rfl rfl) ?_
      refine RG.vl rfl rfl rfl (Ev.assign rfl rfl) ?_
      refine RG.done ?_
      refine QW.then_ ?_
      refine CW.seq ?_
      refine CW.region ?_
      refine RG.vl rfl rfl rfl (Ev.move rfl rfl) ?_
      refine RG.call rfl rfl rfl rfl rfl rfl rfl en_17 (Log_el (y % 64) _ hB6 hBn) ?_
      rintro _ w31 ⟨rfl, hx31⟩
      replace hE3 := Ex.tr hE3 hx31
      replace hE30 := Ex.tr hE30 hx31
      have hE32 := hx31
      refine RG.vl rfl rfl rfl (Ev.move rfl rfl) ?_
      refine RG.vl rfl rfl rfl (Ev.extract rfl rfl rfl) ?_
      refine RG.vl rfl rfl rfl (Ev.extract rfl rfl rfl) ?_
      refine RG.vl rfl rfl rfl (Ev.assign rfl rfl) ?_
      refine RG.vl rfl rfl rfl (Ev.assign rfl rfl) ?_
      refine RG.done ?_
      refine QW.sub (S' := [(6, _), (10, _), (11, _), (20, _), (21, _), (22, _), (23, _)]) ⟨rfl, rfl, rfl, rfl, rfl, rfl, rfl, trivial⟩ ?_
      refine QW.then_ ?_
      refine CW.seq ?_
      refine CW.region ?_
      refine RG.vl rfl rfl rfl (Ev.move rfl rfl) ?_
      refine RG.call rfl rfl rfl rfl rfl rfl rfl en_17 (Log_el (gm (x % 64) (y % 64)) _ hab hab0) ?_
      rintro _ w33 ⟨rfl, hx33⟩
      replace hE3 := Ex.tr hE3 hx33
      replace hE30 := Ex.tr hE30 hx33
      replace hE32 := Ex.tr hE32 hx33
      have hE34 := hx33
      refine RG.vl rfl rfl rfl (Ev.move rfl rfl) ?_
      refine RG.vl rfl rfl rfl (Ev.extract rfl rfl rfl) ?_
      refine RG.vl rfl rfl rfl (Ev.extract rfl rfl rfl) ?_
      refine RG.vl rfl rfl rfl (Ev.assign rfl rfl) ?_
      refine RG.vl rfl rfl rfl (Ev.assign rfl rfl) ?_
      refine RG.done ?_
      refine QW.then_ ?_
      refine CW.seq ?_
      refine CW.region ?_
      refine RG.vl rfl rfl rfl (Ev.move rfl rfl) ?_
      refine RG.vl rfl rfl rfl (Ev.move rfl rfl) ?_
      refine RG.vl rfl rfl rfl (Ev.addI rfl rfl rfl (by omega)) ?_
      refine RG.call rfl rfl rfl rfl rfl rfl rfl en_11 (Pow_el 2 ((lg (x % 64) : Int) + (lg (y % 64) : Int)) _ (by decide) (by decide)) ?_
      rintro _ w35 ⟨rfl, hx35⟩
      replace hE3 := Ex.tr hE3 hx35
      replace hE30 := Ex.tr hE30 hx35
      replace hE32 := Ex.tr hE32 hx35
      replace hE34 := Ex.tr hE34 hx35
      have hE36 := hx35
      refine RG.vl rfl rfl rfl (Ev.move rfl rfl) ?_
      refine RG.vl rfl rfl rfl (Ev.extract rfl rfl rfl) ?_
      refine RG.vl rfl rfl rfl (Ev.extract rfl rfl rfl) ?_
      refine RG.vl rfl rfl rfl (Ev.assign rfl rfl) ?_
      refine RG.vl rfl rfl rfl (Ev.assign rfl rfl) ?_
      refine RG.done ?_
      refine QW.sub (S' := [(6, _), (10, _), (11, _), (20, _), (21, _), (22, _), (23, _), (24, _), (25, _), (26, _), (27, _)]) ⟨rfl, rfl, rfl, rfl, rfl, rfl, rfl, rfl, rfl, rfl, rfl, trivial⟩ ?_
      refine QW.then_ ?_
      refine CW.seq ?_
      refine CW.region ?_
      refine RG.vl rfl rfl rfl (Ev.move rfl rfl) ?_
      refine RG.vl rfl rfl rfl (Ev.isF (Ev.neI rfl rfl rfl) (by decide)) ?_
      refine RG.vl rfl rfl rfl (Ev.move rfl rfl) ?_
      refine RG.vl rfl rfl rfl (Ev.move rfl rfl) ?_
      refine RG.vl rfl rfl rfl (Ev.isF (Ev.neI rfl rfl rfl) (by decide)) ?_
      refine RG.vl rfl rfl rfl (Ev.pickF rfl rfl rfl) ?_
      refine RG.vl rfl rfl rfl (Ev.move rfl rfl) ?_
      refine RG.vl rfl rfl rfl (Ev.move rfl rfl) ?_
      refine RG.vl rfl rfl rfl (Ev.isF (Ev.neI rfl rfl rfl) (by decide)) ?_
      refine RG.vl rfl rfl rfl (Ev.pickF rfl rfl rfl) ?_
      refine RG.vl rfl rfl rfl (Ev.move rfl rfl) ?_
      refine RG.vl rfl rfl rfl (Ev.move rfl rfl) ?_
      refine RG.vl rfl rfl rfl (Ev.isF (Ev.neI rfl rfl rfl) (by decide)) ?_
      refine RG.vl rfl rfl rfl (Ev.pickF rfl rfl rfl) ?_
      refine RG.vl rfl rfl rfl (Ev.move rfl rfl) ?_
      refine RG.vl rfl rfl rfl (Ev.move rfl rfl) ?_
      refine RG.vl rfl rfl rfl (Ev.isF (Ev.eqI rfl rfl rfl) (by omega)) ?_
      refine RG.vl rfl rfl rfl (Ev.pickF rfl rfl rfl) ?_
      refine RG.vl rfl rfl rfl (Ev.move rfl rfl) ?_
      refine RG.vl rfl rfl rfl (Ev.move rfl rfl) ?_
      refine RG.vl rfl rfl rfl (Ev.move rfl rfl) ?_
      refine RG.vl rfl rfl rfl (Ev.addI rfl rfl rfl (by omega)) ?_
      refine RG.vl rfl rfl rfl (Ev.remI rfl rfl rfl (by omega)) ?_
      refine RG.vl rfl rfl rfl (Ev.move rfl rfl) ?_
      refine RG.vl rfl rfl rfl (Ev.isF (Ev.neI rfl rfl rfl) (by rw [lg_gm _ _ hA0 hBn]; omega)) ?_
      refine RG.vl rfl rfl rfl (Ev.pickF rfl rfl rfl) ?_
      refine RG.vl rfl rfl rfl (Ev.move rfl rfl) ?_
      refine RG.vl rfl rfl rfl (Ev.move rfl rfl) ?_
      refine RG.vl rfl rfl rfl (Ev.move rfl rfl) ?_
      refine RG.vl rfl rfl rfl (Ev.isF (Ev.neI rfl rfl rfl) (by rw [pwr_nz 2 _ (by decide), gm_nz _ _ hA0 hBn, show lg 2 = 1 from rfl, Nat.one_mul, show (((lg (x % 64) : Int) + (lg (y % 64) : Int)) % 63).toNat % 63 = (lg (x % 64) + lg (y % 64)) % 63 by omega]; exact fun h => h rfl)) ?_
      refine RG.vl rfl rfl rfl (Ev.pickF rfl rfl rfl) ?_
      refine RG.vl rfl rfl rfl (Ev.move rfl rfl) ?_
      refine RG.vl rfl rfl rfl (Ev.move rfl rfl) ?_
      refine RG.vl rfl rfl rfl (Ev.isF (Ev.lss rfl rfl rfl) (by omega)) ?_
      refine RG.vl rfl rfl rfl (Ev.pickF rfl rfl rfl) ?_
      refine RG.vl rfl rfl rfl (Ev.move rfl rfl) ?_
      refine RG.vl rfl rfl rfl (Ev.move rfl rfl) ?_
      refine RG.vl rfl rfl rfl (Ev.isF (Ev.gtr rfl rfl rfl) (by omega)) ?_
      refine RG.vl rfl rfl rfl (Ev.pickF rfl rfl rfl) ?_
      refine RG.done ?_
      refine QW.sub (S' := [(6, _), (10, _), (186, _)]) ⟨rfl, rfl, rfl, trivial⟩ ?_
      refine QW.then_ ?_
      refine CW.condF rfl ?_
      refine CW.skip ?_
      refine QW.then_ ?_
      refine CW.seq ?_
      refine CW.region ?_
      refine RG.vl rfl rfl rfl (Ev.ld0 rfl rfl Try.underlying4 rfl ((hbw27.ext hE30).cells) (rfl)) ?_
      refine RG.vl rfl rfl rfl (Ev.move rfl rfl) ?_
      refine RG.call rfl rfl rfl rfl rfl rfl rfl en_13 (awake_ret _) ?_
      rintro _ w37 ⟨rfl, hx37⟩
      replace hE3 := Ex.tr hE3 hx37
      replace hE30 := Ex.tr hE30 hx37
      replace hE32 := Ex.tr hE32 hx37
      replace hE34 := Ex.tr hE34 hx37
      replace hE36 := Ex.tr hE36 hx37
      have hE38 := hx37
      refine RG.vl rfl rfl rfl (Ev.pickT rfl rfl rfl) ?_
      refine RG.vl rfl rfl rfl (Ev.assign rfl rfl) ?_
      refine RG.done ?_
      refine QW.then_ ?_
      refine CW.ret ?_
      refine QW.ret1 rfl rfl ?_
      have hB := (Ex.tr hB0 hE3)
      exact ⟨rfl, hB⟩
    · refine CW.skip ?_
      refine QW.then_ ?_
      refine CW.seq ?_
      refine CW.region ?_
      refine RG.vl rfl rfl rfl (Ev.ld0 rfl rfl Try.underlying4 rfl (hbw27.cells) (rfl)) ?_
      refine RG.vl rfl rfl rfl (Ev.move rfl rfl) ?_
      refine RG.call rfl rfl rfl rfl rfl rfl rfl en_13 (awake_ret _) ?_
      rintro _ w39 ⟨rfl, hx39⟩
      replace hE3 := Ex.tr hE3 hx39
      have hE40 := hx39
      refine RG.vl rfl rfl rfl (Ev.pickT rfl rfl rfl) ?_
      refine RG.vl rfl rfl rfl (Ev.assign rfl rfl) ?_
      refine RG.done ?_
      refine QW.then_ ?_
      refine CW.ret ?_
      refine QW.ret1 rfl rfl ?_
      have hB := (Ex.tr hB0 hE3)
      exact ⟨rfl, hB⟩
  · refine CW.skip ?_
    refine QW.then_ ?_
    refine CW.seq ?_
    refine CW.seq ?_
    refine CW.region ?_
    refine RG.vl rfl rfl rfl (Ev.move rfl rfl) ?_
    refine RG.vl rfl rfl rfl (Ev.isF (Ev.neI rfl rfl rfl) (by omega)) ?_
    refine RG.vl rfl rfl rfl (Ev.move rfl rfl) ?_
    refine RG.pass rfl rfl rfl ?_
    refine RG.pass rfl rfl rfl ?_
    refine RG.vl rfl rfl rfl (Ev.pickF rfl rfl rfl) ?_
    refine RG.done ?_
    refine QW.then_ ?_
    refine CW.condF rfl ?_
    refine CW.skip ?_
    refine QW.then_ ?_
    refine CW.seq ?_
    refine CW.region ?_
    refine RG.vl rfl rfl rfl (Ev.ld0 rfl rfl Try.underlying4 rfl (hbw22.cells) (rfl)) ?_
    refine RG.vl rfl rfl rfl (Ev.move rfl rfl) ?_
    refine RG.call rfl rfl rfl rfl rfl rfl rfl en_13 (awake_ret _) ?_
    rintro _ w41 ⟨rfl, hx41⟩
    replace hE3 := Ex.tr hE3 hx41
    have hE42 := hx41
    refine RG.vl rfl rfl rfl (Ev.pickT rfl rfl rfl) ?_
    refine RG.vl rfl rfl rfl (Ev.assign rfl rfl) ?_
    refine RG.done ?_
    refine QW.then_ ?_
    refine CW.ret ?_
    refine QW.ret1 rfl rfl ?_
    have hB := (Ex.tr hB0 hE3)
    exact ⟨rfl, hB⟩

end Go.Proofs.Ytjaledljhiihmaa
