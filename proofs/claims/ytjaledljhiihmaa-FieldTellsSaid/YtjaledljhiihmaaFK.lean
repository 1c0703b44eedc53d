/- Walks (FK). Written by program. -/
import Derived.Test.YtjaledljhiihmaaT
import Derived.Test.YtjaledljhiihmaaGC
namespace Go.Proofs.Ytjaledljhiihmaa
open Go.RowKit
set_option maxRecDepth 100000 in
set_option maxHeartbeats 8000000 in
theorem fieldTells_ret (a0 b0 n : Int) (w : World) (ha : 0 ≤ a0 ∧ a0 ≤ 255) (hb : 0 ≤ b0 ∧ b0 ≤ 255) :
    Ret Try.prog 4 [.int .u8 a0, .int .u8 b0, .int .i64 n] w (fun v w' => v = .bool true ∧ Ex w w') := by
  obtain ⟨a, rfl⟩ : ∃ a : Nat, a0 = (a : Int) := ⟨a0.toNat, by omega⟩
  obtain ⟨b, rfl⟩ : ∃ b : Nat, b0 = (b : Int) := ⟨b0.toNat, by omega⟩
  have hB0 : Ex w w := Ex.rfl_ _
  refine Ret.of Try.func4 rfl Try.ntmps4 rfl ?_
  refine CW.seq ?_
  refine CW.region ?_
  refine RG.vl rfl rfl rfl (Ev.assign rfl rfl) ?_
  refine RG.done ?_
  refine QW.then_ ?_
  refine CW.seq ?_
  by_cases ha64 : a < 64
  · by_cases ha0 : a = 0
    · subst ha0
      by_cases hn0 : n = 0
      · by_cases hb64 : b < 64
        · refine CW.region ?_
          refine RG.vl rfl rfl rfl (Ev.move rfl rfl) ?_
          refine RG.vl rfl rfl rfl (Ev.move rfl rfl) ?_
          refine RG.call rfl rfl rfl rfl rfl rfl rfl en_14 (Add_el 0 b _ (by omega) (by omega)) ?_
          rintro _ w1 ⟨rfl, hx1⟩
          have hE2 := hx1
          refine RG.vl rfl rfl rfl (Ev.move rfl rfl) ?_
          refine RG.vl rfl rfl rfl (Ev.extract rfl rfl rfl) ?_
          refine RG.vl rfl rfl rfl (Ev.extract rfl rfl rfl) ?_
          refine RG.vl rfl rfl rfl (Ev.assign rfl rfl) ?_
          refine RG.vl rfl rfl rfl (Ev.assign rfl rfl) ?_
          refine RG.done ?_
          refine QW.then_ ?_
          refine CW.seq ?_
          refine CW.region ?_
          refine RG.vl rfl rfl rfl (Ev.move rfl rfl) ?_
          refine RG.vl rfl rfl rfl (Ev.move rfl rfl) ?_
          refine RG.call rfl rfl rfl rfl rfl rfl rfl en_15 (Mul_el 0 b _ (by omega) (by omega)) ?_
          rintro _ w3 ⟨rfl, hx3⟩
          replace hE2 := Ex.tr hE2 hx3
          have hE4 := hx3
          refine RG.vl rfl rfl rfl (Ev.move rfl rfl) ?_
          refine RG.vl rfl rfl rfl (Ev.extract rfl rfl rfl) ?_
          refine RG.vl rfl rfl rfl (Ev.extract rfl rfl rfl) ?_
          refine RG.vl rfl rfl rfl (Ev.assign rfl rfl) ?_
          refine RG.vl rfl rfl rfl (Ev.assign rfl rfl) ?_
          refine RG.done ?_
          refine QW.sub (S' := [(0, _), (1, _), (2, _), (6, _), (7, _), (8, _), (9, _), (10, _)]) ⟨rfl, rfl, rfl, rfl, rfl, rfl, rfl, rfl, trivial⟩ ?_
          refine QW.then_ ?_
          refine CW.seq ?_
          refine CW.region ?_
          refine RG.vl rfl rfl rfl (Ev.move rfl rfl) ?_
          refine RG.call rfl rfl rfl rfl rfl rfl rfl en_16 (Inv_z _) ?_
          rintro _ w5 ⟨rfl, hx5⟩
          replace hE2 := Ex.tr hE2 hx5
          replace hE4 := Ex.tr hE4 hx5
          have hE6 := hx5
          refine RG.vl rfl rfl rfl (Ev.move rfl rfl) ?_
          refine RG.vl rfl rfl rfl (Ev.extract rfl rfl rfl) ?_
          refine RG.vl rfl rfl rfl (Ev.extract rfl rfl rfl) ?_
          refine RG.vl rfl rfl rfl (Ev.assign rfl rfl) ?_
          refine RG.vl rfl rfl rfl (Ev.assign rfl rfl) ?_
          refine RG.done ?_
          refine QW.then_ ?_
          refine CW.seq ?_
          refine CW.region ?_
          refine RG.vl rfl rfl rfl (Ev.move rfl rfl) ?_
          refine RG.vl rfl rfl rfl (Ev.move rfl rfl) ?_
          refine RG.call rfl rfl rfl rfl rfl rfl rfl en_11 (Pow_z n _ (r := 1) (e := 0) (by simp [hn0]) (by simp [hn0])) ?_
          rintro _ w7 ⟨rfl, hx7⟩
          replace hE2 := Ex.tr hE2 hx7
          replace hE4 := Ex.tr hE4 hx7
          replace hE6 := Ex.tr hE6 hx7
          have hE8 := hx7
          refine RG.vl rfl rfl rfl (Ev.move rfl rfl) ?_
          refine RG.vl rfl rfl rfl (Ev.extract rfl rfl rfl) ?_
          refine RG.vl rfl rfl rfl (Ev.extract rfl rfl rfl) ?_
          refine RG.vl rfl rfl rfl (Ev.assign rfl rfl) ?_
          refine RG.vl rfl rfl rfl (Ev.assign rfl rfl) ?_
          refine RG.done ?_
          refine QW.sub (S' := [(0, _), (1, _), (2, _), (6, _), (7, _), (8, _), (9, _), (10, _), (11, _), (12, _), (13, _), (14, _)]) ⟨rfl, rfl, rfl, rfl, rfl, rfl, rfl, rfl, rfl, rfl, rfl, rfl, trivial⟩ ?_
          refine QW.then_ ?_
          refine CW.seq ?_
          refine CW.region ?_
          refine RG.vl rfl rfl rfl (Ev.move rfl rfl) ?_
          refine RG.call rfl rfl rfl rfl rfl rfl rfl en_17 (Log_z _) ?_
          rintro _ w9 ⟨rfl, hx9⟩
          replace hE2 := Ex.tr hE2 hx9
          replace hE4 := Ex.tr hE4 hx9
          replace hE6 := Ex.tr hE6 hx9
          replace hE8 := Ex.tr hE8 hx9
          have hE10 := hx9
          refine RG.vl rfl rfl rfl (Ev.move rfl rfl) ?_
          refine RG.vl rfl rfl rfl (Ev.extract rfl rfl rfl) ?_
          refine RG.vl rfl rfl rfl (Ev.extract rfl rfl rfl) ?_
          refine RG.vl rfl rfl rfl (Ev.assign rfl rfl) ?_
          refine RG.vl rfl rfl rfl (Ev.assign rfl rfl) ?_
          refine RG.done ?_
          refine QW.then_ ?_
          refine CW.seq ?_
          refine CW.seq ?_
          refine CW.region ?_
          refine RG.vl rfl rfl rfl (Ev.move rfl rfl) ?_
          refine RG.vl rfl rfl rfl (Ev.isF (Ev.gtr rfl rfl rfl) (by omega)) ?_
          refine RG.vl rfl rfl rfl (Ev.move rfl rfl) ?_
          refine RG.vl rfl rfl rfl (Ev.move rfl rfl) ?_
          refine RG.vl rfl rfl rfl (Ev.isF (Ev.gtr rfl rfl rfl) (by omega)) ?_
          refine RG.vl rfl rfl rfl (Ev.pickF rfl rfl rfl) ?_
          refine RG.done ?_
          refine QW.then_ ?_
          refine CW.condF rfl ?_
          refine CW.seq ?_
          refine CW.region ?_
          refine RG.vl rfl rfl rfl (Ev.move rfl rfl) ?_
          refine RG.vl rfl rfl rfl (Ev.isF (Ev.neI rfl rfl rfl) (by decide)) ?_
          refine RG.vl rfl rfl rfl (Ev.move rfl rfl) ?_
          refine RG.vl rfl rfl rfl (Ev.move rfl rfl) ?_
          refine RG.vl rfl rfl rfl (Ev.move rfl rfl) ?_
          refine RG.vl rfl rfl rfl (Ev.isF (Ev.neI rfl rfl rfl) (by decide)) ?_
          refine RG.vl rfl rfl rfl (Ev.pickF rfl rfl rfl) ?_
          refine RG.vl rfl rfl rfl (Ev.move rfl rfl) ?_
          refine RG.vl rfl rfl rfl (Ev.move rfl rfl) ?_
          refine RG.vl rfl rfl rfl (Ev.move rfl rfl) ?_
          refine RG.vl rfl rfl rfl (Ev.move rfl rfl) ?_
          refine RG.vl rfl rfl rfl (Ev.xor8 rfl rfl rfl (by omega) (by omega)) ?_
          refine RG.vl rfl rfl rfl (Ev.isF (Ev.neI rfl rfl rfl) (fun h => h rfl)) ?_
          refine RG.vl rfl rfl rfl (Ev.pickF rfl rfl rfl) ?_
          refine RG.vl rfl rfl rfl (Ev.move rfl rfl) ?_
          refine RG.vl rfl rfl rfl (Ev.move rfl rfl) ?_
          refine RG.vl rfl rfl rfl (Ev.move rfl rfl) ?_
          refine RG.vl rfl rfl rfl (Ev.move rfl rfl) ?_
          refine RG.call rfl rfl rfl rfl rfl rfl rfl en_18 (rmul_ret 0 b _ (by omega) (by omega)) ?_
          rintro _ w11 ⟨rfl, hx11⟩
          replace hE2 := Ex.tr hE2 hx11
          replace hE4 := Ex.tr hE4 hx11
          replace hE6 := Ex.tr hE6 hx11
          replace hE8 := Ex.tr hE8 hx11
          replace hE10 := Ex.tr hE10 hx11
          have hE12 := hx11
          refine RG.vl rfl rfl rfl (Ev.isF (Ev.neI rfl rfl rfl) (fun h => h rfl)) ?_
          refine RG.vl rfl rfl rfl (Ev.pickF rfl rfl rfl) ?_
          refine RG.done ?_
          refine QW.sub (S' := [(0, _), (2, _), (6, _), (11, _), (12, _), (13, _), (14, _), (15, _), (16, _), (89, _)]) ⟨rfl, rfl, rfl, rfl, rfl, rfl, rfl, rfl, rfl, rfl, trivial⟩ ?_
          refine QW.then_ ?_
          refine CW.condF rfl ?_
          refine CW.skip ?_
          refine QW.then_ ?_
          refine CW.seq ?_
          refine CW.block ?_
          refine CW.seq ?_
          refine CW.region ?_
          refine RG.vl rfl rfl rfl (Ev.move rfl rfl) ?_
          refine RG.vl rfl rfl rfl (Ev.isF (Ev.gtr rfl rfl rfl) (by omega)) ?_
          refine RG.vl rfl rfl rfl (Ev.assign rfl rfl) ?_
          refine RG.done ?_
          refine QW.then_ ?_
          refine CW.condF rfl ?_
          refine CW.seq ?_
          refine CW.region ?_
          refine RG.vl rfl rfl rfl (Ev.move rfl rfl) ?_
          refine RG.vl rfl rfl rfl (Ev.isT (Ev.eqI rfl rfl rfl) (rfl)) ?_
          refine RG.vl rfl rfl rfl (Ev.assign rfl rfl) ?_
          refine RG.done ?_
          refine QW.then_ ?_
          refine CW.condT rfl ?_
          refine CW.seq ?_
          refine CW.region ?_
          refine RG.vl rfl rfl rfl (Ev.assign rfl rfl) ?_
          refine RG.vl rfl rfl rfl (Ev.assign rfl rfl) ?_
          refine RG.done ?_
          refine QW.then_ ?_
          refine CW.seq ?_
          refine CW.seq ?_
          refine CW.region ?_
          refine RG.vl rfl rfl rfl (Ev.move rfl rfl) ?_
          refine RG.vl rfl rfl rfl (Ev.isT (Ev.eqI rfl rfl rfl) (by omega)) ?_
          refine RG.done ?_
          refine QW.then_ ?_
          refine CW.condT rfl ?_
          refine CW.region ?_
          refine RG.vl rfl rfl rfl (Ev.assign rfl rfl) ?_
          refine RG.done ?_
          refine QW.then_ ?_
          refine CW.seq ?_
          refine CW.seq ?_
          refine CW.region ?_
          refine RG.vl rfl rfl rfl (Ev.move rfl rfl) ?_
          refine RG.vl rfl rfl rfl (Ev.isF (Ev.lss rfl rfl rfl) (by omega)) ?_
          refine RG.done ?_
          refine QW.then_ ?_
          refine CW.condF rfl ?_
          refine CW.skip ?_
          refine QW.then_ ?_
          refine CW.seq ?_
          refine CW.region ?_
          refine RG.vl rfl rfl rfl (Ev.move rfl rfl) ?_
          refine RG.vl rfl rfl rfl (Ev.isT (Ev.eqI rfl rfl rfl) (rfl)) ?_
          refine RG.vl rfl rfl rfl (Ev.move rfl rfl) ?_
          refine RG.vl rfl rfl rfl (Ev.move rfl rfl) ?_
          refine RG.vl rfl rfl rfl (Ev.move rfl rfl) ?_
          refine RG.vl rfl rfl rfl (Ev.isT (Ev.eqI rfl rfl rfl) (rfl)) ?_
          refine RG.vl rfl rfl rfl (Ev.pickT rfl rfl rfl) ?_
          refine RG.vl rfl rfl rfl (Ev.move rfl rfl) ?_
          refine RG.vl rfl rfl rfl (Ev.move rfl rfl) ?_
          refine RG.vl rfl rfl rfl (Ev.move rfl rfl) ?_
          refine RG.vl rfl rfl rfl (Ev.isT (Ev.eqI rfl rfl rfl) (rfl)) ?_
          refine RG.vl rfl rfl rfl (Ev.pickT rfl rfl rfl) ?_
          refine RG.vl rfl rfl rfl (Ev.move rfl rfl) ?_
          refine RG.vl rfl rfl rfl (Ev.move rfl rfl) ?_
          refine RG.vl rfl rfl rfl (Ev.isT (Ev.eqI rfl rfl rfl) (rfl)) ?_
          refine RG.vl rfl rfl rfl (Ev.pickT rfl rfl rfl) ?_
          refine RG.vl rfl rfl rfl (Ev.move rfl rfl) ?_
          refine RG.vl rfl rfl rfl (Ev.move rfl rfl) ?_
          refine RG.vl rfl rfl rfl (Ev.move rfl rfl) ?_
          refine RG.vl rfl rfl rfl (Ev.isT (Ev.eqI rfl rfl rfl) (rfl)) ?_
          refine RG.vl rfl rfl rfl (Ev.pickT rfl rfl rfl) ?_
          refine RG.vl rfl rfl rfl (Ev.move rfl rfl) ?_
          refine RG.vl rfl rfl rfl (Ev.move rfl rfl) ?_
          refine RG.vl rfl rfl rfl (Ev.isT (Ev.eqI rfl rfl rfl) (rfl)) ?_
          refine RG.vl rfl rfl rfl (Ev.pickT rfl rfl rfl) ?_
          refine RG.vl rfl rfl rfl (Ev.move rfl rfl) ?_
          refine RG.call rfl rfl rfl rfl rfl rfl rfl en_13 (awake_ret _) ?_
          rintro _ w13 ⟨rfl, hx13⟩
          replace hE2 := Ex.tr hE2 hx13
          replace hE4 := Ex.tr hE4 hx13
          replace hE6 := Ex.tr hE6 hx13
          replace hE8 := Ex.tr hE8 hx13
          replace hE10 := Ex.tr hE10 hx13
          replace hE12 := Ex.tr hE12 hx13
          have hE14 := hx13
          refine RG.vl rfl rfl rfl (Ev.pickT rfl rfl rfl) ?_
          refine RG.vl rfl rfl rfl (Ev.assign rfl rfl) ?_
          refine RG.done ?_
          refine QW.sub (S' := [(0, _), (2, _), (6, _), (11, _), (12, _), (13, _), (14, _), (15, _), (16, _)]) ⟨rfl, rfl, rfl, rfl, rfl, rfl, rfl, rfl, rfl, trivial⟩ ?_
          refine QW.then_ ?_
          refine CW.ret ?_
          refine QW.blockR ?_
          refine QW.thenRet ?_
          refine QW.ret1 rfl rfl ?_
          have hB := (Ex.tr hB0 hE2)
          exact ⟨rfl, hB⟩
        · refine CW.region ?_
          refine RG.vl rfl rfl rfl (Ev.move rfl rfl) ?_
          refine RG.vl rfl rfl rfl (Ev.move rfl rfl) ?_
          refine RG.call rfl rfl rfl rfl rfl rfl rfl en_14 (Add_bad 0 b _ (by omega) (by omega) (by omega)) ?_
          rintro _ w15 ⟨rfl, hx15⟩
          have hE16 := hx15
          refine RG.vl rfl rfl rfl (Ev.move rfl rfl) ?_
          refine RG.vl rfl rfl rfl (Ev.extract rfl rfl rfl) ?_
          refine RG.vl rfl rfl rfl (Ev.extract rfl rfl rfl) ?_
          refine RG.vl rfl rfl rfl (Ev.assign rfl rfl) ?_
          refine RG.vl rfl rfl rfl (Ev.assign rfl rfl) ?_
          refine RG.done ?_
          refine QW.then_ ?_
          refine CW.seq ?_
          refine CW.region ?_
          refine RG.vl rfl rfl rfl (Ev.move rfl rfl) ?_
          refine RG.vl rfl rfl rfl (Ev.move rfl rfl) ?_
          refine RG.call rfl rfl rfl rfl rfl rfl rfl en_15 (Mul_bad 0 b _ (by omega)) ?_
          rintro _ w17 ⟨rfl, hx17⟩
          replace hE16 := Ex.tr hE16 hx17
          have hE18 := hx17
          refine RG.vl rfl rfl rfl (Ev.move rfl rfl) ?_
          refine RG.vl rfl rfl rfl (Ev.extract rfl rfl rfl) ?_
          refine RG.vl rfl rfl rfl (Ev.extract rfl rfl rfl) ?_
          refine RG.vl rfl rfl rfl (Ev.assign rfl rfl) ?_
          refine RG.vl rfl rfl rfl (Ev.assign rfl rfl) ?_
          refine RG.done ?_
          refine QW.sub (S' := [(0, _), (1, _), (2, _), (6, _), (7, _), (8, _), (9, _), (10, _)]) ⟨rfl, rfl, rfl, rfl, rfl, rfl, rfl, rfl, trivial⟩ ?_
          refine QW.then_ ?_
          refine CW.seq ?_
          refine CW.region ?_
          refine RG.vl rfl rfl rfl (Ev.move rfl rfl) ?_
          refine RG.call rfl rfl rfl rfl rfl rfl rfl en_16 (Inv_z _) ?_
          rintro _ w19 ⟨rfl, hx19⟩
          replace hE16 := Ex.tr hE16 hx19
          replace hE18 := Ex.tr hE18 hx19
          have hE20 := hx19
          refine RG.vl rfl rfl rfl (Ev.move rfl rfl) ?_
          refine RG.vl rfl rfl rfl (Ev.extract rfl rfl rfl) ?_
          refine RG.vl rfl rfl rfl (Ev.extract rfl rfl rfl) ?_
          refine RG.vl rfl rfl rfl (Ev.assign rfl rfl) ?_
          refine RG.vl rfl rfl rfl (Ev.assign rfl rfl) ?_
          refine RG.done ?_
          refine QW.then_ ?_
          refine CW.seq ?_
          refine CW.region ?_
          refine RG.vl rfl rfl rfl (Ev.move rfl rfl) ?_
          refine RG.vl rfl rfl rfl (Ev.move rfl rfl) ?_
          refine RG.call rfl rfl rfl rfl rfl rfl rfl en_11 (Pow_z n _ (r := 1) (e := 0) (by simp [hn0]) (by simp [hn0])) ?_
          rintro _ w21 ⟨rfl, hx21⟩
          replace hE16 := Ex.tr hE16 hx21
          replace hE18 := Ex.tr hE18 hx21
          replace hE20 := Ex.tr hE20 hx21
          have hE22 := hx21
          refine RG.vl rfl rfl rfl (Ev.move rfl rfl) ?_
          refine RG.vl rfl rfl rfl (Ev.extract rfl rfl rfl) ?_
          refine RG.vl rfl rfl rfl (Ev.extract rfl rfl rfl) ?_
          refine RG.vl rfl rfl rfl (Ev.assign rfl rfl) ?_
          refine RG.vl rfl rfl rfl (Ev.assign rfl rfl) ?_
          refine RG.done ?_
          refine QW.sub (S' := [(0, _), (1, _), (2, _), (6, _), (7, _), (8, _), (9, _), (10, _), (11, _), (12, _), (13, _), (14, _)]) ⟨rfl, rfl, rfl, rfl, rfl, rfl, rfl, rfl, rfl, rfl, rfl, rfl, trivial⟩ ?_
          refine QW.then_ ?_
          refine CW.seq ?_
          refine CW.region ?_
          refine RG.vl rfl rfl rfl (Ev.move rfl rfl) ?_
          refine RG.call rfl rfl rfl rfl rfl rfl rfl en_17 (Log_z _) ?_
          rintro _ w23 ⟨rfl, hx23⟩
          replace hE16 := Ex.tr hE16 hx23
          replace hE18 := Ex.tr hE18 hx23
          replace hE20 := Ex.tr hE20 hx23
          replace hE22 := Ex.tr hE22 hx23
          have hE24 := hx23
          refine RG.vl rfl rfl rfl (Ev.move rfl rfl) ?_
          refine RG.vl rfl rfl rfl (Ev.extract rfl rfl rfl) ?_
          refine RG.vl rfl rfl rfl (Ev.extract rfl rfl rfl) ?_
          refine RG.vl rfl rfl rfl (Ev.assign rfl rfl) ?_
          refine RG.vl rfl rfl rfl (Ev.assign rfl rfl) ?_
          refine RG.done ?_
          refine QW.then_ ?_
          refine CW.seq ?_
          refine CW.seq ?_
          refine CW.region ?_
          refine RG.vl rfl rfl rfl (Ev.move rfl rfl) ?_
          refine RG.vl rfl rfl rfl (Ev.isF (Ev.gtr rfl rfl rfl) (by omega)) ?_
          refine RG.vl rfl rfl rfl (Ev.move rfl rfl) ?_
          refine RG.vl rfl rfl rfl (Ev.move rfl rfl) ?_
          refine RG.vl rfl rfl rfl (Ev.isT (Ev.gtr rfl rfl rfl) (by omega)) ?_
          refine RG.vl rfl rfl rfl (Ev.pickF rfl rfl rfl) ?_
          refine RG.done ?_
          refine QW.then_ ?_
          refine CW.condT rfl ?_
          refine CW.seq ?_
          refine CW.region ?_
          refine RG.vl rfl rfl rfl (Ev.move rfl rfl) ?_
          refine RG.vl rfl rfl rfl (Ev.isF (Ev.neI rfl rfl rfl) (by decide)) ?_
          refine RG.vl rfl rfl rfl (Ev.move rfl rfl) ?_
          refine RG.vl rfl rfl rfl (Ev.move rfl rfl) ?_
          refine RG.vl rfl rfl rfl (Ev.move rfl rfl) ?_
          refine RG.vl rfl rfl rfl (Ev.isF (Ev.neI rfl rfl rfl) (by decide)) ?_
          refine RG.vl rfl rfl rfl (Ev.pickF rfl rfl rfl) ?_
          refine RG.vl rfl rfl rfl (Ev.move rfl rfl) ?_
          refine RG.vl rfl rfl rfl (Ev.move rfl rfl) ?_
          refine RG.vl rfl rfl rfl (Ev.isF (Ev.neI rfl rfl rfl) (by decide)) ?_
          refine RG.vl rfl rfl rfl (Ev.pickF rfl rfl rfl) ?_
          refine RG.vl rfl rfl rfl (Ev.move rfl rfl) ?_
          refine RG.vl rfl rfl rfl (Ev.move rfl rfl) ?_
          refine RG.vl rfl rfl rfl (Ev.isF (Ev.neI rfl rfl rfl) (by decide)) ?_
          refine RG.vl rfl rfl rfl (Ev.pickF rfl rfl rfl) ?_
          refine RG.done ?_
          refine QW.sub (S' := [(0, _), (2, _), (6, _), (11, _), (12, _), (13, _), (14, _), (15, _), (16, _), (68, _)]) ⟨rfl, rfl, rfl, rfl, rfl, rfl, rfl, rfl, rfl, rfl, trivial⟩ ?_
          refine QW.then_ ?_
          refine CW.condF rfl ?_
          refine CW.skip ?_
          refine QW.then_ ?_
          refine CW.seq ?_
          refine CW.block ?_
          refine CW.seq ?_
          refine CW.region ?_
          refine RG.vl rfl rfl rfl (Ev.move rfl rfl) ?_
          refine RG.vl rfl rfl rfl (Ev.isF (Ev.gtr rfl rfl rfl) (by omega)) ?_
          refine RG.vl rfl rfl rfl (Ev.assign rfl rfl) ?_
          refine RG.done ?_
          refine QW.then_ ?_
          refine CW.condF rfl ?_
          refine CW.seq ?_
          refine CW.region ?_
          refine RG.vl rfl rfl rfl (Ev.move rfl rfl) ?_
          refine RG.vl rfl rfl rfl (Ev.isT (Ev.eqI rfl rfl rfl) (rfl)) ?_
          refine RG.vl rfl rfl rfl (Ev.assign rfl rfl) ?_
          refine RG.done ?_
          refine QW.then_ ?_
          refine CW.condT rfl ?_
          refine CW.seq ?_
          refine CW.region ?_
          refine RG.vl rfl rfl rfl (Ev.assign rfl rfl) ?_
          refine RG.vl rfl rfl rfl (Ev.assign rfl rfl) ?_
          refine RG.done ?_
          refine QW.then_ ?_
          refine CW.seq ?_
          refine CW.seq ?_
          refine CW.region ?_
          refine RG.vl rfl rfl rfl (Ev.move rfl rfl) ?_
          refine RG.vl rfl rfl rfl (Ev.isT (Ev.eqI rfl rfl rfl) (by omega)) ?_
          refine RG.done ?_
          refine QW.then_ ?_
          refine CW.condT rfl ?_
          refine CW.region ?_
          refine RG.vl rfl rfl rfl (Ev.assign rfl rfl) ?_
          refine RG.done ?_
          refine QW.then_ ?_
          refine CW.seq ?_
          refine CW.seq ?_
          refine CW.region ?_
          refine RG.vl rfl rfl rfl (Ev.move rfl rfl) ?_
          refine RG.vl rfl rfl rfl (Ev.isF (Ev.lss rfl rfl rfl) (by omega)) ?_
          refine RG.done ?_
          refine QW.then_ ?_
          refine CW.condF rfl ?_
          refine CW.skip ?_
          refine QW.then_ ?_
          refine CW.seq ?_
          refine CW.region ?_
          refine RG.vl rfl rfl rfl (Ev.move rfl rfl) ?_
          refine RG.vl rfl rfl rfl (Ev.isT (Ev.eqI rfl rfl rfl) (rfl)) ?_
          refine RG.vl rfl rfl rfl (Ev.move rfl rfl) ?_
          refine RG.vl rfl rfl rfl (Ev.move rfl rfl) ?_
          refine RG.vl rfl rfl rfl (Ev.move rfl rfl) ?_
          refine RG.vl rfl rfl rfl (Ev.isT (Ev.eqI rfl rfl rfl) (rfl)) ?_
          refine RG.vl rfl rfl rfl (Ev.pickT rfl rfl rfl) ?_
          refine RG.vl rfl rfl rfl (Ev.move rfl rfl) ?_
          refine RG.vl rfl rfl rfl (Ev.move rfl rfl) ?_
          refine RG.vl rfl rfl rfl (Ev.move rfl rfl) ?_
          refine RG.vl rfl rfl rfl (Ev.isT (Ev.eqI rfl rfl rfl) (rfl)) ?_
          refine RG.vl rfl rfl rfl (Ev.pickT rfl rfl rfl) ?_
          refine RG.vl rfl rfl rfl (Ev.move rfl rfl) ?_
          refine RG.vl rfl rfl rfl (Ev.move rfl rfl) ?_
          refine RG.vl rfl rfl rfl (Ev.isT (Ev.eqI rfl rfl rfl) (rfl)) ?_
          refine RG.vl rfl rfl rfl (Ev.pickT rfl rfl rfl) ?_
          refine RG.vl rfl rfl rfl (Ev.move rfl rfl) ?_
          refine RG.vl rfl rfl rfl (Ev.move rfl rfl) ?_
          refine RG.vl rfl rfl rfl (Ev.move rfl rfl) ?_
          refine RG.vl rfl rfl rfl (Ev.isT (Ev.eqI rfl rfl rfl) (rfl)) ?_
          refine RG.vl rfl rfl rfl (Ev.pickT rfl rfl rfl) ?_
          refine RG.vl rfl rfl rfl (Ev.move rfl rfl) ?_
          refine RG.vl rfl rfl rfl (Ev.move rfl rfl) ?_
          refine RG.vl rfl rfl rfl (Ev.isT (Ev.eqI rfl rfl rfl) (rfl)) ?_
          refine RG.vl rfl rfl rfl (Ev.pickT rfl rfl rfl) ?_
          refine RG.vl rfl rfl rfl (Ev.move rfl rfl) ?_
          refine RG.call rfl rfl rfl rfl rfl rfl rfl en_13 (awake_ret _) ?_
          rintro _ w25 ⟨rfl, hx25⟩
          replace hE16 := Ex.tr hE16 hx25
          replace hE18 := Ex.tr hE18 hx25
          replace hE20 := Ex.tr hE20 hx25
          replace hE22 := Ex.tr hE22 hx25
          replace hE24 := Ex.tr hE24 hx25
          have hE26 := hx25
          refine RG.vl rfl rfl rfl (Ev.pickT rfl rfl rfl) ?_
          refine RG.vl rfl rfl rfl (Ev.assign rfl rfl) ?_
          refine RG.done ?_
          refine QW.sub (S' := [(0, _), (2, _), (6, _), (11, _), (12, _), (13, _), (14, _), (15, _), (16, _)]) ⟨rfl, rfl, rfl, rfl, rfl, rfl, rfl, rfl, rfl, trivial⟩ ?_
          refine QW.then_ ?_
          refine CW.ret ?_
          refine QW.blockR ?_
          refine QW.thenRet ?_
          refine QW.ret1 rfl rfl ?_
          have hB := (Ex.tr hB0 hE16)
          exact ⟨rfl, hB⟩
      · by_cases hn1 : n < 0
        · by_cases hb64 : b < 64
          · refine CW.region ?_
            refine RG.vl rfl rfl rfl (Ev.move rfl rfl) ?_
            refine RG.vl rfl rfl rfl (Ev.move rfl rfl) ?_
            refine RG.call rfl rfl rfl rfl rfl rfl rfl en_14 (Add_el 0 b _ (by omega) (by omega)) ?_
            rintro _ w27 ⟨rfl, hx27⟩
            have hE28 := hx27
            refine RG.vl rfl rfl rfl (Ev.move rfl rfl) ?_
            refine RG.vl rfl rfl rfl (Ev.extract rfl rfl rfl) ?_
            refine RG.vl rfl rfl rfl (Ev.extract rfl rfl rfl) ?_
            refine RG.vl rfl rfl rfl (Ev.assign rfl rfl) ?_
            refine RG.vl rfl rfl rfl (Ev.assign rfl rfl) ?_
            refine RG.done ?_
            refine QW.then_ ?_
            refine CW.seq ?_
            refine CW.region ?_
            refine RG.vl rfl rfl rfl (Ev.move rfl rfl) ?_
            refine RG.vl rfl rfl rfl (Ev.move rfl rfl) ?_
            refine RG.call rfl rfl rfl rfl rfl rfl rfl en_15 (Mul_el 0 b _ (by omega) (by omega)) ?_
            rintro _ w29 ⟨rfl, hx29⟩
            replace hE28 := Ex.tr hE28 hx29
            have hE30 := hx29
            refine RG.vl rfl rfl rfl (Ev.move rfl rfl) ?_
            refine RG.vl rfl rfl rfl (Ev.extract rfl rfl rfl) ?_
            refine RG.vl rfl rfl rfl (Ev.extract rfl rfl rfl) ?_
            refine RG.vl rfl rfl rfl (Ev.assign rfl rfl) ?_
            refine RG.vl rfl rfl rfl (Ev.assign rfl rfl) ?_
            refine RG.done ?_
            refine QW.sub (S' := [(0, _), (1, _), (2, _), (6, _), (7, _), (8, _), (9, _), (10, _)]) ⟨rfl, rfl, rfl, rfl, rfl, rfl, rfl, rfl, trivial⟩ ?_
            refine QW.then_ ?_
            refine CW.seq ?_
            refine CW.region ?_
            refine RG.vl rfl rfl rfl (Ev.move rfl rfl) ?_
            refine RG.call rfl rfl rfl rfl rfl rfl rfl en_16 (Inv_z _) ?_
            rintro _ w31 ⟨rfl, hx31⟩
            replace hE28 := Ex.tr hE28 hx31
            replace hE30 := Ex.tr hE30 hx31
            have hE32 := hx31
            refine RG.vl rfl rfl rfl (Ev.move rfl rfl) ?_
            refine RG.vl rfl rfl rfl (Ev.extract rfl rfl rfl) ?_
            refine RG.vl rfl rfl rfl (Ev.extract rfl rfl rfl) ?_
            refine RG.vl rfl rfl rfl (Ev.assign rfl rfl) ?_
            refine RG.vl rfl rfl rfl (Ev.assign rfl rfl) ?_
            refine RG.done ?_
            refine QW.then_ ?_
            refine CW.seq ?_
            refine CW.region ?_
            refine RG.vl rfl rfl rfl (Ev.move rfl rfl) ?_
            refine RG.vl rfl rfl rfl (Ev.move rfl rfl) ?_
            refine RG.call rfl rfl rfl rfl rfl rfl rfl en_11 (Pow_z n _ (r := 0) (e := 6) (by simp [hn0]) (by simp [hn1])) ?_
            rintro _ w33 ⟨rfl, hx33⟩
            replace hE28 := Ex.tr hE28 hx33
            replace hE30 := Ex.tr hE30 hx33
            replace hE32 := Ex.tr hE32 hx33
            have hE34 := hx33
            refine RG.vl rfl rfl rfl (Ev.move rfl rfl) ?_
            refine RG.vl rfl rfl rfl (Ev.extract rfl rfl rfl) ?_
            refine RG.vl rfl rfl rfl (Ev.extract rfl rfl rfl) ?_
            refine RG.vl rfl rfl rfl (Ev.assign rfl rfl) ?_
            refine RG.vl rfl rfl rfl (Ev.assign rfl rfl) ?_
            refine RG.done ?_
            refine QW.sub (S' := [(0, _), (1, _), (2, _), (6, _), (7, _), (8, _), (9, _), (10, _), (11, _), (12, _), (13, _), (14, _)]) ⟨rfl, rfl, rfl, rfl, rfl, rfl, rfl, rfl, rfl, rfl, rfl, rfl, trivial⟩ ?_
            refine QW.then_ ?_
            refine CW.seq ?_
            refine CW.region ?_
            refine RG.vl rfl rfl rfl (Ev.move rfl rfl) ?_
            refine RG.call rfl rfl rfl rfl rfl rfl rfl en_17 (Log_z _) ?_
            rintro _ w35 ⟨rfl, hx35⟩
            replace hE28 := Ex.tr hE28 hx35
            replace hE30 := Ex.tr hE30 hx35
            replace hE32 := Ex.tr hE32 hx35
            replace hE34 := Ex.tr hE34 hx35
            have hE36 := hx35
            refine RG.vl rfl rfl rfl (Ev.move rfl rfl) ?_
            refine RG.vl rfl rfl rfl (Ev.extract rfl rfl rfl) ?_
            refine RG.vl rfl rfl rfl (Ev.extract rfl rfl rfl) ?_
            refine RG.vl rfl rfl rfl (Ev.assign rfl rfl) ?_
            refine RG.vl rfl rfl rfl (Ev.assign rfl rfl) ?_
            refine RG.done ?_
            refine QW.then_ ?_
            refine CW.seq ?_
            refine CW.seq ?_
            refine CW.region ?_
            refine RG.vl rfl rfl rfl (Ev.move rfl rfl) ?_
            refine RG.vl rfl rfl rfl (Ev.isF (Ev.gtr rfl rfl rfl) (by omega)) ?_
            refine RG.vl rfl rfl rfl (Ev.move rfl rfl) ?_
            refine RG.vl rfl rfl rfl (Ev.move rfl rfl) ?_
            refine RG.vl rfl rfl rfl (Ev.isF (Ev.gtr rfl rfl rfl) (by omega)) ?_
            refine RG.vl rfl rfl rfl (Ev.pickF rfl rfl rfl) ?_
            refine RG.done ?_
            refine QW.then_ ?_
            refine CW.condF rfl ?_
            refine CW.seq ?_
            refine CW.region ?_
            refine RG.vl rfl rfl rfl (Ev.move rfl rfl) ?_
            refine RG.vl rfl rfl rfl (Ev.isF (Ev.neI rfl rfl rfl) (by decide)) ?_
            refine RG.vl rfl rfl rfl (Ev.move rfl rfl) ?_
            refine RG.vl rfl rfl rfl (Ev.move rfl rfl) ?_
            refine RG.vl rfl rfl rfl (Ev.move rfl rfl) ?_
            refine RG.vl rfl rfl rfl (Ev.isF (Ev.neI rfl rfl rfl) (by decide)) ?_
            refine RG.vl rfl rfl rfl (Ev.pickF rfl rfl rfl) ?_
            refine RG.vl rfl rfl rfl (Ev.move rfl rfl) ?_
            refine RG.vl rfl rfl rfl (Ev.move rfl rfl) ?_
            refine RG.vl rfl rfl rfl (Ev.move rfl rfl) ?_
            refine RG.vl rfl rfl rfl (Ev.move rfl rfl) ?_
            refine RG.vl rfl rfl rfl (Ev.xor8 rfl rfl rfl (by omega) (by omega)) ?_
            refine RG.vl rfl rfl rfl (Ev.isF (Ev.neI rfl rfl rfl) (fun h => h rfl)) ?_
            refine RG.vl rfl rfl rfl (Ev.pickF rfl rfl rfl) ?_
            refine RG.vl rfl rfl rfl (Ev.move rfl rfl) ?_
            refine RG.vl rfl rfl rfl (Ev.move rfl rfl) ?_
            refine RG.vl rfl rfl rfl (Ev.move rfl rfl) ?_
            refine RG.vl rfl rfl rfl (Ev.move rfl rfl) ?_
            refine RG.call rfl rfl rfl rfl rfl rfl rfl en_18 (rmul_ret 0 b _ (by omega) (by omega)) ?_
            rintro _ w37 ⟨rfl, hx37⟩
            replace hE28 := Ex.tr hE28 hx37
            replace hE30 := Ex.tr hE30 hx37
            replace hE32 := Ex.tr hE32 hx37
            replace hE34 := Ex.tr hE34 hx37
            replace hE36 := Ex.tr hE36 hx37
            have hE38 := hx37
            refine RG.vl rfl rfl rfl (Ev.isF (Ev.neI rfl rfl rfl) (fun h => h rfl)) ?_
            refine RG.vl rfl rfl rfl (Ev.pickF rfl rfl rfl) ?_
            refine RG.done ?_
            refine QW.sub (S' := [(0, _), (2, _), (6, _), (11, _), (12, _), (13, _), (14, _), (15, _), (16, _), (89, _)]) ⟨rfl, rfl, rfl, rfl, rfl, rfl, rfl, rfl, rfl, rfl, trivial⟩ ?_
            refine QW.then_ ?_
            refine CW.condF rfl ?_
            refine CW.skip ?_
            refine QW.then_ ?_
            refine CW.seq ?_
            refine CW.block ?_
            refine CW.seq ?_
            refine CW.region ?_
            refine RG.vl rfl rfl rfl (Ev.move rfl rfl) ?_
            refine RG.vl rfl rfl rfl (Ev.isF (Ev.gtr rfl rfl rfl) (by omega)) ?_
            refine RG.vl rfl rfl rfl (Ev.assign rfl rfl) ?_
            refine RG.done ?_
            refine QW.then_ ?_
            refine CW.condF rfl ?_
            refine CW.seq ?_
            refine CW.region ?_
            refine RG.vl rfl rfl rfl (Ev.move rfl rfl) ?_
            refine RG.vl rfl rfl rfl (Ev.isT (Ev.eqI rfl rfl rfl) (rfl)) ?_
            refine RG.vl rfl rfl rfl (Ev.assign rfl rfl) ?_
            refine RG.done ?_
            refine QW.then_ ?_
            refine CW.condT rfl ?_
            refine CW.seq ?_
            refine CW.region ?_
            refine RG.vl rfl rfl rfl (Ev.assign rfl rfl) ?_
            refine RG.vl rfl rfl rfl (Ev.assign rfl rfl) ?_
            refine RG.done ?_
            refine QW.then_ ?_
            refine CW.seq ?_
            refine CW.seq ?_
            refine CW.region ?_
            refine RG.vl rfl rfl rfl (Ev.move rfl rfl) ?_
            refine RG.vl rfl rfl rfl (Ev.isF (Ev.eqI rfl rfl rfl) (by omega)) ?_
            refine RG.done ?_
            refine QW.then_ ?_
            refine CW.condF rfl ?_
            refine CW.skip ?_
            refine QW.then_ ?_
            refine CW.seq ?_
            refine CW.seq ?_
            refine CW.region ?_
            refine RG.vl rfl rfl rfl (Ev.move rfl rfl) ?_
            refine RG.vl rfl rfl rfl (Ev.isT (Ev.lss rfl rfl rfl) (by omega)) ?_
            refine RG.done ?_
            refine QW.then_ ?_
            refine CW.condT rfl ?_
            refine CW.region ?_
            refine RG.vl rfl rfl rfl (Ev.assign rfl rfl) ?_
            refine RG.done ?_
            refine QW.then_ ?_
            refine CW.seq ?_
            refine CW.region ?_
            refine RG.vl rfl rfl rfl (Ev.move rfl rfl) ?_
            refine RG.vl rfl rfl rfl (Ev.isT (Ev.eqI rfl rfl rfl) (rfl)) ?_
            refine RG.vl rfl rfl rfl (Ev.move rfl rfl) ?_
            refine RG.vl rfl rfl rfl (Ev.move rfl rfl) ?_
            refine RG.vl rfl rfl rfl (Ev.move rfl rfl) ?_
            refine RG.vl rfl rfl rfl (Ev.isT (Ev.eqI rfl rfl rfl) (rfl)) ?_
            refine RG.vl rfl rfl rfl (Ev.pickT rfl rfl rfl) ?_
            refine RG.vl rfl rfl rfl (Ev.move rfl rfl) ?_
            refine RG.vl rfl rfl rfl (Ev.move rfl rfl) ?_
            refine RG.vl rfl rfl rfl (Ev.move rfl rfl) ?_
            refine RG.vl rfl rfl rfl (Ev.isT (Ev.eqI rfl rfl rfl) (rfl)) ?_
            refine RG.vl rfl rfl rfl (Ev.pickT rfl rfl rfl) ?_
            refine RG.vl rfl rfl rfl (Ev.move rfl rfl) ?_
            refine RG.vl rfl rfl rfl (Ev.move rfl rfl) ?_
            refine RG.vl rfl rfl rfl (Ev.isT (Ev.eqI rfl rfl rfl) (rfl)) ?_
            refine RG.vl rfl rfl rfl (Ev.pickT rfl rfl rfl) ?_
            refine RG.vl rfl rfl rfl (Ev.move rfl rfl) ?_
            refine RG.vl rfl rfl rfl (Ev.move rfl rfl) ?_
            refine RG.vl rfl rfl rfl (Ev.move rfl rfl) ?_
            refine RG.vl rfl rfl rfl (Ev.isT (Ev.eqI rfl rfl rfl) (rfl)) ?_
            refine RG.vl rfl rfl rfl (Ev.pickT rfl rfl rfl) ?_
            refine RG.vl rfl rfl rfl (Ev.move rfl rfl) ?_
            refine RG.vl rfl rfl rfl (Ev.move rfl rfl) ?_
            refine RG.vl rfl rfl rfl (Ev.isT (Ev.eqI rfl rfl rfl) (rfl)) ?_
            refine RG.vl rfl rfl rfl (Ev.pickT rfl rfl rfl) ?_
            refine RG.vl rfl rfl rfl (Ev.move rfl rfl) ?_
            refine RG.call rfl rfl rfl rfl rfl rfl rfl en_13 (awake_ret _) ?_
            rintro _ w39 ⟨rfl, hx39⟩
            replace hE28 := Ex.tr hE28 hx39
            replace hE30 := Ex.tr hE30 hx39
            replace hE32 := Ex.tr hE32 hx39
            replace hE34 := Ex.tr hE34 hx39
            replace hE36 := Ex.tr hE36 hx39
            replace hE38 := Ex.tr hE38 hx39
            have hE40 := hx39
            refine RG.vl rfl rfl rfl (Ev.pickT rfl rfl rfl) ?_
            refine RG.vl rfl rfl rfl (Ev.assign rfl rfl) ?_
            refine RG.done ?_
            refine QW.sub (S' := [(0, _), (2, _), (6, _), (11, _), (12, _), (13, _), (14, _), (15, _), (16, _)]) ⟨rfl, rfl, rfl, rfl, rfl, rfl, rfl, rfl, rfl, trivial⟩ ?_
            refine QW.then_ ?_
            refine CW.ret ?_
            refine QW.blockR ?_
            refine QW.thenRet ?_
            refine QW.ret1 rfl rfl ?_
            have hB := (Ex.tr hB0 hE28)
            exact ⟨rfl, hB⟩
          · refine CW.region ?_
            refine RG.vl rfl rfl rfl (Ev.move rfl rfl) ?_
            refine RG.vl rfl rfl rfl (Ev.move rfl rfl) ?_
            refine RG.call rfl rfl rfl rfl rfl rfl rfl en_14 (Add_bad 0 b _ (by omega) (by omega) (by omega)) ?_
            rintro _ w41 ⟨rfl, hx41⟩
            have hE42 := hx41
            refine RG.vl rfl rfl rfl (Ev.move rfl rfl) ?_
            refine RG.vl rfl rfl rfl (Ev.extract rfl rfl rfl) ?_
            refine RG.vl rfl rfl rfl (Ev.extract rfl rfl rfl) ?_
            refine RG.vl rfl rfl rfl (Ev.assign rfl rfl) ?_
            refine RG.vl rfl rfl rfl (Ev.assign rfl rfl) ?_
            refine RG.done ?_
            refine QW.then_ ?_
            refine CW.seq ?_
            refine CW.region ?_
            refine RG.vl rfl rfl rfl (Ev.move rfl rfl) ?_
            refine RG.vl rfl rfl rfl (Ev.move rfl rfl) ?_
            refine RG.call rfl rfl rfl rfl rfl rfl rfl en_15 (Mul_bad 0 b _ (by omega)) ?_
            rintro _ w43 ⟨rfl, hx43⟩
            replace hE42 := Ex.tr hE42 hx43
            have hE44 := hx43
            refine RG.vl rfl rfl rfl (Ev.move rfl rfl) ?_
            refine RG.vl rfl rfl rfl (Ev.extract rfl rfl rfl) ?_
            refine RG.vl rfl rfl rfl (Ev.extract rfl rfl rfl) ?_
            refine RG.vl rfl rfl rfl (Ev.assign rfl rfl) ?_
            refine RG.vl rfl rfl rfl (Ev.assign rfl rfl) ?_
            refine RG.done ?_
            refine QW.sub (S' := [(0, _), (1, _), (2, _), (6, _), (7, _), (8, _), (9, _), (10, _)]) ⟨rfl, rfl, rfl, rfl, rfl, rfl, rfl, rfl, trivial⟩ ?_
            refine QW.then_ ?_
            refine CW.seq ?_
            refine CW.region ?_
            refine RG.vl rfl rfl rfl (Ev.move rfl rfl) ?_
            refine RG.call rfl rfl rfl rfl rfl rfl rfl en_16 (Inv_z _) ?_
            rintro _ w45 ⟨rfl, hx45⟩
            replace hE42 := Ex.tr hE42 hx45
            replace hE44 := Ex.tr hE44 hx45
            have hE46 := hx45
            refine RG.vl rfl rfl rfl (Ev.move rfl rfl) ?_
            refine RG.vl rfl rfl rfl (Ev.extract rfl rfl rfl) ?_
            refine RG.vl rfl rfl rfl (Ev.extract rfl rfl rfl) ?_
            refine RG.vl rfl rfl rfl (Ev.assign rfl rfl) ?_
            refine RG.vl rfl rfl rfl (Ev.assign rfl rfl) ?_
            refine RG.done ?_
            refine QW.then_ ?_
            refine CW.seq ?_
            refine CW.region ?_
            refine RG.vl rfl rfl rfl (Ev.move rfl rfl) ?_
            refine RG.vl rfl rfl rfl (Ev.move rfl rfl) ?_
            refine RG.call rfl rfl rfl rfl rfl rfl rfl en_11 (Pow_z n _ (r := 0) (e := 6) (by simp [hn0]) (by simp [hn1])) ?_
            rintro _ w47 ⟨rfl, hx47⟩
            replace hE42 := Ex.tr hE42 hx47
            replace hE44 := Ex.tr hE44 hx47
            replace hE46 := Ex.tr hE46 hx47
            have hE48 := hx47
            refine RG.vl rfl rfl rfl (Ev.move rfl rfl) ?_
            refine RG.vl rfl rfl rfl (Ev.extract rfl rfl rfl) ?_
            refine RG.vl rfl rfl rfl (Ev.extract rfl rfl rfl) ?_
            refine RG.vl rfl rfl rfl (Ev.assign rfl rfl) ?_
            refine RG.vl rfl rfl rfl (Ev.assign rfl rfl) ?_
            refine RG.done ?_
            refine QW.sub (S' := [(0, _), (1, _), (2, _), (6, _), (7, _), (8, _), (9, _), (10, _), (11, _), (12, _), (13, _), (14, _)]) ⟨rfl, rfl, rfl, rfl, rfl, rfl, rfl, rfl, rfl, rfl, rfl, rfl, trivial⟩ ?_
            refine QW.then_ ?_
            refine CW.seq ?_
            refine CW.region ?_
            refine RG.vl rfl rfl rfl (Ev.move rfl rfl) ?_
            refine RG.call rfl rfl rfl rfl rfl rfl rfl en_17 (Log_z _) ?_
            rintro _ w49 ⟨rfl, hx49⟩
            replace hE42 := Ex.tr hE42 hx49
            replace hE44 := Ex.tr hE44 hx49
            replace hE46 := Ex.tr hE46 hx49
            replace hE48 := Ex.tr hE48 hx49
            have hE50 := hx49
            refine RG.vl rfl rfl rfl (Ev.move rfl rfl) ?_
            refine RG.vl rfl rfl rfl (Ev.extract rfl rfl rfl) ?_
            refine RG.vl rfl rfl rfl (Ev.extract rfl rfl rfl) ?_
            refine RG.vl rfl rfl rfl (Ev.assign rfl rfl) ?_
            refine RG.vl rfl rfl rfl (Ev.assign rfl rfl) ?_
            refine RG.done ?_
            refine QW.then_ ?_
            refine CW.seq ?_
            refine CW.seq ?_
            refine CW.region ?_
            refine RG.vl rfl rfl rfl (Ev.move rfl rfl) ?_
            refine RG.vl rfl rfl rfl (Ev.isF (Ev.gtr rfl rfl rfl) (by omega)) ?_
            refine RG.vl rfl rfl rfl (Ev.move rfl rfl) ?_
            refine RG.vl rfl rfl rfl (Ev.move rfl rfl) ?_
            refine RG.vl rfl rfl rfl (Ev.isT (Ev.gtr rfl rfl rfl) (by omega)) ?_
            refine RG.vl rfl rfl rfl (Ev.pickF rfl rfl rfl) ?_
            refine RG.done ?_
            refine QW.then_ ?_
            refine CW.condT rfl ?_
            refine CW.seq ?_
            refine CW.region ?_
            refine RG.vl rfl rfl rfl (Ev.move rfl rfl) ?_
            refine RG.vl rfl rfl rfl (Ev.isF (Ev.neI rfl rfl rfl) (by decide)) ?_
            refine RG.vl rfl rfl rfl (Ev.move rfl rfl) ?_
            refine RG.vl rfl rfl rfl (Ev.move rfl rfl) ?_
            refine RG.vl rfl rfl rfl (Ev.move rfl rfl) ?_
            refine RG.vl rfl rfl rfl (Ev.isF (Ev.neI rfl rfl rfl) (by decide)) ?_
            refine RG.vl rfl rfl rfl (Ev.pickF rfl rfl rfl) ?_
            refine RG.vl rfl rfl rfl (Ev.move rfl rfl) ?_
            refine RG.vl rfl rfl rfl (Ev.move rfl rfl) ?_
            refine RG.vl rfl rfl rfl (Ev.isF (Ev.neI rfl rfl rfl) (by decide)) ?_
            refine RG.vl rfl rfl rfl (Ev.pickF rfl rfl rfl) ?_
            refine RG.vl rfl rfl rfl (Ev.move rfl rfl) ?_
            refine RG.vl rfl rfl rfl (Ev.move rfl rfl) ?_
            refine RG.vl rfl rfl rfl (Ev.isF (Ev.neI rfl rfl rfl) (by decide)) ?_
            refine RG.vl rfl rfl rfl (Ev.pickF rfl rfl rfl) ?_
            refine RG.done ?_
            refine QW.sub (S' := [(0, _), (2, _), (6, _), (11, _), (12, _), (13, _), (14, _), (15, _), (16, _), (68, _)]) ⟨rfl, rfl, rfl, rfl, rfl, rfl, rfl, rfl, rfl, rfl, trivial⟩ ?_
            refine QW.then_ ?_
            refine CW.condF rfl ?_
            refine CW.skip ?_
            refine QW.then_ ?_
            refine CW.seq ?_
            refine CW.block ?_
            refine CW.seq ?_
            refine CW.region ?_
            refine RG.vl rfl rfl rfl (Ev.move rfl rfl) ?_
            refine RG.vl rfl rfl rfl (Ev.isF (Ev.gtr rfl rfl rfl) (by omega)) ?_
            refine RG.vl rfl rfl rfl (Ev.assign rfl rfl) ?_
            refine RG.done ?_
            refine QW.then_ ?_
            refine CW.condF rfl ?_
            refine CW.seq ?_
            refine CW.region ?_
            refine RG.vl rfl rfl rfl (Ev.move rfl rfl) ?_
            refine RG.vl rfl rfl rfl (Ev.isT (Ev.eqI rfl rfl rfl) (rfl)) ?_
            refine RG.vl rfl rfl rfl (Ev.assign rfl rfl) ?_
            refine RG.done ?_
            refine QW.then_ ?_
            refine CW.condT rfl ?_
            refine CW.seq ?_
            refine CW.region ?_
            refine RG.vl rfl rfl rfl (Ev.assign rfl rfl) ?_
            refine RG.vl rfl rfl rfl (Ev.assign rfl rfl) ?_
            refine RG.done ?_
            refine QW.then_ ?_
            refine CW.seq ?_
            refine CW.seq ?_
            refine CW.region ?_
            refine RG.vl rfl rfl rfl (Ev.move rfl rfl) ?_
            refine RG.vl rfl rfl rfl (Ev.isF (Ev.eqI rfl rfl rfl) (by omega)) ?_
            refine RG.done ?_
            refine QW.then_ ?_
            refine CW.condF rfl ?_
            refine CW.skip ?_
            refine QW.then_ ?_
            refine CW.seq ?_
            refine CW.seq ?_
            refine CW.region ?_
            refine RG.vl rfl rfl rfl (Ev.move rfl rfl) ?_
            refine RG.vl rfl rfl rfl (Ev.isT (Ev.lss rfl rfl rfl) (by omega)) ?_
            refine RG.done ?_
            refine QW.then_ ?_
            refine CW.condT rfl ?_
            refine CW.region ?_
            refine RG.vl rfl rfl rfl (Ev.assign rfl rfl) ?_
            refine RG.done ?_
            refine QW.then_ ?_
            refine CW.seq ?_
            refine CW.region ?_
            refine RG.vl rfl rfl rfl (Ev.move rfl rfl) ?_
            refine RG.vl rfl rfl rfl (Ev.isT (Ev.eqI rfl rfl rfl) (rfl)) ?_
            refine RG.vl rfl rfl rfl (Ev.move rfl rfl) ?_
            refine RG.vl rfl rfl rfl (Ev.move rfl rfl) ?_
            refine RG.vl rfl rfl rfl (Ev.move rfl rfl) ?_
            refine RG.vl rfl rfl rfl (Ev.isT (Ev.eqI rfl rfl rfl) (rfl)) ?_
            refine RG.vl rfl rfl rfl (Ev.pickT rfl rfl rfl) ?_
            refine RG.vl rfl rfl rfl (Ev.move rfl rfl) ?_
            refine RG.vl rfl rfl rfl (Ev.move rfl rfl) ?_
            refine RG.vl rfl rfl rfl (Ev.move rfl rfl) ?_
            refine RG.vl rfl rfl rfl (Ev.isT (Ev.eqI rfl rfl rfl) (rfl)) ?_
            refine RG.vl rfl rfl rfl (Ev.pickT rfl rfl rfl) ?_
            refine RG.vl rfl rfl rfl (Ev.move rfl rfl) ?_
            refine RG.vl rfl rfl rfl (Ev.move rfl rfl) ?_
            refine RG.vl rfl rfl rfl (Ev.isT (Ev.eqI rfl rfl rfl) (rfl)) ?_
            refine RG.vl rfl rfl rfl (Ev.pickT rfl rfl rfl) ?_
            refine RG.vl rfl rfl rfl (Ev.move rfl rfl) ?_
            refine RG.vl rfl rfl rfl (Ev.move rfl rfl) ?_
            refine RG.vl rfl rfl rfl (Ev.move rfl rfl) ?_
            refine RG.vl rfl rfl rfl (Ev.isT (Ev.eqI rfl rfl rfl) (rfl)) ?_
            refine RG.vl rfl rfl rfl (Ev.pickT rfl rfl rfl) ?_
            refine RG.vl rfl rfl rfl (Ev.move rfl rfl) ?_
            refine RG.vl rfl rfl rfl (Ev.move rfl rfl) ?_
            refine RG.vl rfl rfl rfl (Ev.isT (Ev.eqI rfl rfl rfl) (rfl)) ?_
            refine RG.vl rfl rfl rfl (Ev.pickT rfl rfl rfl) ?_
            refine RG.vl rfl rfl rfl (Ev.move rfl rfl) ?_
            refine RG.call rfl rfl rfl rfl rfl rfl rfl en_13 (awake_ret _) ?_
            rintro _ w51 ⟨rfl, hx51⟩
            replace hE42 := Ex.tr hE42 hx51
            replace hE44 := Ex.tr hE44 hx51
            replace hE46 := Ex.tr hE46 hx51
            replace hE48 := Ex.tr hE48 hx51
            replace hE50 := Ex.tr hE50 hx51
            have hE52 := hx51
            refine RG.vl rfl rfl rfl (Ev.pickT rfl rfl rfl) ?_
            refine RG.vl rfl rfl rfl (Ev.assign rfl rfl) ?_
            refine RG.done ?_
            refine QW.sub (S' := [(0, _), (2, _), (6, _), (11, _), (12, _), (13, _), (14, _), (15, _), (16, _)]) ⟨rfl, rfl, rfl, rfl, rfl, rfl, rfl, rfl, rfl, trivial⟩ ?_
            refine QW.then_ ?_
            refine CW.ret ?_
            refine QW.blockR ?_
            refine QW.thenRet ?_
            refine QW.ret1 rfl rfl ?_
            have hB := (Ex.tr hB0 hE42)
            exact ⟨rfl, hB⟩
        · by_cases hb64 : b < 64
          · refine CW.region ?_
            refine RG.vl rfl rfl rfl (Ev.move rfl rfl) ?_
            refine RG.vl rfl rfl rfl (Ev.move rfl rfl) ?_
            refine RG.call rfl rfl rfl rfl rfl rfl rfl en_14 (Add_el 0 b _ (by omega) (by omega)) ?_
            rintro _ w53 ⟨rfl, hx53⟩
            have hE54 := hx53
            refine RG.vl rfl rfl rfl (Ev.move rfl rfl) ?_
            refine RG.vl rfl rfl rfl (Ev.extract rfl rfl rfl) ?_
            refine RG.vl rfl rfl rfl (Ev.extract rfl rfl rfl) ?_
            refine RG.vl rfl rfl rfl (Ev.assign rfl rfl) ?_
            refine RG.vl rfl rfl rfl (Ev.assign rfl rfl) ?_
            refine RG.done ?_
            refine QW.then_ ?_
            refine CW.seq ?_
            refine CW.region ?_
            refine RG.vl rfl rfl rfl (Ev.move rfl rfl) ?_
            refine RG.vl rfl rfl rfl (Ev.move rfl rfl) ?_
            refine RG.call rfl rfl rfl rfl rfl rfl rfl en_15 (Mul_el 0 b _ (by omega) (by omega)) ?_
            rintro _ w55 ⟨rfl, hx55⟩
            replace hE54 := Ex.tr hE54 hx55
            have hE56 := hx55
            refine RG.vl rfl rfl rfl (Ev.move rfl rfl) ?_
            refine RG.vl rfl rfl rfl (Ev.extract rfl rfl rfl) ?_
            refine RG.vl rfl rfl rfl (Ev.extract rfl rfl rfl) ?_
            refine RG.vl rfl rfl rfl (Ev.assign rfl rfl) ?_
            refine RG.vl rfl rfl rfl (Ev.assign rfl rfl) ?_
            refine RG.done ?_
            refine QW.sub (S' := [(0, _), (1, _), (2, _), (6, _), (7, _), (8, _), (9, _), (10, _)]) ⟨rfl, rfl, rfl, rfl, rfl, rfl, rfl, rfl, trivial⟩ ?_
            refine QW.then_ ?_
            refine CW.seq ?_
            refine CW.region ?_
            refine RG.vl rfl rfl rfl (Ev.move rfl rfl) ?_
            refine RG.call rfl rfl rfl rfl rfl rfl rfl en_16 (Inv_z _) ?_
            rintro _ w57 ⟨rfl, hx57⟩
            replace hE54 := Ex.tr hE54 hx57
            replace hE56 := Ex.tr hE56 hx57
            have hE58 := hx57
            refine RG.vl rfl rfl rfl (Ev.move rfl rfl) ?_
            refine RG.vl rfl rfl rfl (Ev.extract rfl rfl rfl) ?_
            refine RG.vl rfl rfl rfl (Ev.extract rfl rfl rfl) ?_
            refine RG.vl rfl rfl rfl (Ev.assign rfl rfl) ?_
            refine RG.vl rfl rfl rfl (Ev.assign rfl rfl) ?_
            refine RG.done ?_
            refine QW.then_ ?_
            refine CW.seq ?_
            refine CW.region ?_
            refine RG.vl rfl rfl rfl (Ev.move rfl rfl) ?_
            refine RG.vl rfl rfl rfl (Ev.move rfl rfl) ?_
            refine RG.call rfl rfl rfl rfl rfl rfl rfl en_11 (Pow_z n _ (r := 0) (e := 0) (by simp [hn0]) (by simp; omega)) ?_
            rintro _ w59 ⟨rfl, hx59⟩
            replace hE54 := Ex.tr hE54 hx59
            replace hE56 := Ex.tr hE56 hx59
            replace hE58 := Ex.tr hE58 hx59
            have hE60 := hx59
            refine RG.vl rfl rfl rfl (Ev.move rfl rfl) ?_
            refine RG.vl rfl rfl rfl (Ev.extract rfl rfl rfl) ?_
            refine RG.vl rfl rfl rfl (Ev.extract rfl rfl rfl) ?_
            refine RG.vl rfl rfl rfl (Ev.assign rfl rfl) ?_
            refine RG.vl rfl rfl rfl (Ev.assign rfl rfl) ?_
            refine RG.done ?_
            refine QW.sub (S' := [(0, _), (1, _), (2, _), (6, _), (7, _), (8, _), (9, _), (10, _), (11, _), (12, _), (13, _), (14, _)]) ⟨rfl, rfl, rfl, rfl, rfl, rfl, rfl, rfl, rfl, rfl, rfl, rfl, trivial⟩ ?_
            refine QW.then_ ?_
            refine CW.seq ?_
            refine CW.region ?_
            refine RG.vl rfl rfl rfl (Ev.move rfl rfl) ?_
            refine RG.call rfl rfl rfl rfl rfl rfl rfl en_17 (Log_z _) ?_
            rintro _ w61 ⟨rfl, hx61⟩
            replace hE54 := Ex.tr hE54 hx61
            replace hE56 := Ex.tr hE56 hx61
            replace hE58 := Ex.tr hE58 hx61
            replace hE60 := Ex.tr hE60 hx61
            have hE62 := hx61
            refine RG.vl rfl rfl rfl (Ev.move rfl rfl) ?_
            refine RG.vl rfl rfl rfl (Ev.extract rfl rfl rfl) ?_
            refine RG.vl rfl rfl rfl (Ev.extract rfl rfl rfl) ?_
            refine RG.vl rfl rfl rfl (Ev.assign rfl rfl) ?_
            refine RG.vl rfl rfl rfl (Ev.assign rfl rfl) ?_
            refine RG.done ?_
            refine QW.then_ ?_
            refine CW.seq ?_
            refine CW.seq ?_
            refine CW.region ?_
            refine RG.vl rfl rfl rfl (Ev.move rfl rfl) ?_
            refine RG.vl rfl rfl rfl (Ev.isF (Ev.gtr rfl rfl rfl) (by omega)) ?_
            refine RG.vl rfl rfl rfl (Ev.move rfl rfl) ?_
            refine RG.vl rfl rfl rfl (Ev.move rfl rfl) ?_
            refine RG.vl rfl rfl rfl (Ev.isF (Ev.gtr rfl rfl rfl) (by omega)) ?_
            refine RG.vl rfl rfl rfl (Ev.pickF rfl rfl rfl) ?_
            refine RG.done ?_
            refine QW.then_ ?_
            refine CW.condF rfl ?_
            refine CW.seq ?_
            refine CW.region ?_
            refine RG.vl rfl rfl rfl (Ev.move rfl rfl) ?_
            refine RG.vl rfl rfl rfl (Ev.isF (Ev.neI rfl rfl rfl) (by decide)) ?_
            refine RG.vl rfl rfl rfl (Ev.move rfl rfl) ?_
            refine RG.vl rfl rfl rfl (Ev.move rfl rfl) ?_
            refine RG.vl rfl rfl rfl (Ev.move rfl rfl) ?_
            refine RG.vl rfl rfl rfl (Ev.isF (Ev.neI rfl rfl rfl) (by decide)) ?_
            refine RG.vl rfl rfl rfl (Ev.pickF rfl rfl rfl) ?_
            refine RG.vl rfl rfl rfl (Ev.move rfl rfl) ?_
            refine RG.vl rfl rfl rfl (Ev.move rfl rfl) ?_
            refine RG.vl rfl rfl rfl (Ev.move rfl rfl) ?_
            refine RG.vl rfl rfl rfl (Ev.move rfl rfl) ?_
            refine RG.vl rfl rfl rfl (Ev.xor8 rfl rfl rfl (by omega) (by omega)) ?_
            refine RG.vl rfl rfl rfl (Ev.isF (Ev.neI rfl rfl rfl) (fun h => h rfl)) ?_
            refine RG.vl rfl rfl rfl (Ev.pickF rfl rfl rfl) ?_
            refine RG.vl rfl rfl rfl (Ev.move rfl rfl) ?_
            refine RG.vl rfl rfl rfl (Ev.move rfl rfl) ?_
            refine RG.vl rfl rfl rfl (Ev.move rfl rfl) ?_
            refine RG.vl rfl rfl rfl (Ev.move rfl rfl) ?_
            refine RG.call rfl rfl rfl rfl rfl rfl rfl en_18 (rmul_ret 0 b _ (by omega) (by omega)) ?_
            rintro _ w63 ⟨rfl, hx63⟩
            replace hE54 := Ex.tr hE54 hx63
            replace hE56 := Ex.tr hE56 hx63
            replace hE58 := Ex.tr hE58 hx63
            replace hE60 := Ex.tr hE60 hx63
            replace hE62 := Ex.tr hE62 hx63
            have hE64 := hx63
            refine RG.vl rfl rfl rfl (Ev.isF (Ev.neI rfl rfl rfl) (fun h => h rfl)) ?_
            refine RG.vl rfl rfl rfl (Ev.pickF rfl rfl rfl) ?_
            refine RG.done ?_
            refine QW.sub (S' := [(0, _), (2, _), (6, _), (11, _), (12, _), (13, _), (14, _), (15, _), (16, _), (89, _)]) ⟨rfl, rfl, rfl, rfl, rfl, rfl, rfl, rfl, rfl, rfl, trivial⟩ ?_
            refine QW.then_ ?_
            refine CW.condF rfl ?_
            refine CW.skip ?_
            refine QW.then_ ?_
            refine CW.seq ?_
            refine CW.block ?_
            refine CW.seq ?_
            refine CW.region ?_
            refine RG.vl rfl rfl rfl (Ev.move rfl rfl) ?_
            refine RG.vl rfl rfl rfl (Ev.isF (Ev.gtr rfl rfl rfl) (by omega)) ?_
            refine RG.vl rfl rfl rfl (Ev.assign rfl rfl) ?_
            refine RG.done ?_
            refine QW.then_ ?_
            refine CW.condF rfl ?_
            refine CW.seq ?_
            refine CW.region ?_
            refine RG.vl rfl rfl rfl (Ev.move rfl rfl) ?_
            refine RG.vl rfl rfl rfl (Ev.isT (Ev.eqI rfl rfl rfl) (rfl)) ?_
            refine RG.vl rfl rfl rfl (Ev.assign rfl rfl) ?_
            refine RG.done ?_
            refine QW.then_ ?_
            refine CW.condT rfl ?_
            refine CW.seq ?_
            refine CW.region ?_
            refine RG.vl rfl rfl rfl (Ev.assign rfl rfl) ?_
            refine RG.vl rfl rfl rfl (Ev.assign rfl rfl) ?_
            refine RG.done ?_
            refine QW.then_ ?_
            refine CW.seq ?_
            refine CW.seq ?_
            refine CW.region ?_
            refine RG.vl rfl rfl rfl (Ev.move rfl rfl) ?_
            refine RG.vl rfl rfl rfl (Ev.isF (Ev.eqI rfl rfl rfl) (by omega)) ?_
            refine RG.done ?_
            refine QW.then_ ?_
            refine CW.condF rfl ?_
            refine CW.skip ?_
            refine QW.then_ ?_
            refine CW.seq ?_
            refine CW.seq ?_
            refine CW.region ?_
            refine RG.vl rfl rfl rfl (Ev.move rfl rfl) ?_
            refine RG.vl rfl rfl rfl (Ev.isF (Ev.lss rfl rfl rfl) (by omega)) ?_
            refine RG.done ?_
            refine QW.then_ ?_
            refine CW.condF rfl ?_
            refine CW.skip ?_
            refine QW.then_ ?_
            refine CW.seq ?_
            refine CW.region ?_
            refine RG.vl rfl rfl rfl (Ev.move rfl rfl) ?_
            refine RG.vl rfl rfl rfl (Ev.isT (Ev.eqI rfl rfl rfl) (rfl)) ?_
            refine RG.vl rfl rfl rfl (Ev.move rfl rfl) ?_
            refine RG.vl rfl rfl rfl (Ev.move rfl rfl) ?_
            refine RG.vl rfl rfl rfl (Ev.move rfl rfl) ?_
            refine RG.vl rfl rfl rfl (Ev.isT (Ev.eqI rfl rfl rfl) (rfl)) ?_
            refine RG.vl rfl rfl rfl (Ev.pickT rfl rfl rfl) ?_
            refine RG.vl rfl rfl rfl (Ev.move rfl rfl) ?_
            refine RG.vl rfl rfl rfl (Ev.move rfl rfl) ?_
            refine RG.vl rfl rfl rfl (Ev.move rfl rfl) ?_
            refine RG.vl rfl rfl rfl (Ev.isT (Ev.eqI rfl rfl rfl) (rfl)) ?_
            refine RG.vl rfl rfl rfl (Ev.pickT rfl rfl rfl) ?_
            refine RG.vl rfl rfl rfl (Ev.move rfl rfl) ?_
            refine RG.vl rfl rfl rfl (Ev.move rfl rfl) ?_
            refine RG.vl rfl rfl rfl (Ev.isT (Ev.eqI rfl rfl rfl) (rfl)) ?_
            refine RG.vl rfl rfl rfl (Ev.pickT rfl rfl rfl) ?_
            refine RG.vl rfl rfl rfl (Ev.move rfl rfl) ?_
            refine RG.vl rfl rfl rfl (Ev.move rfl rfl) ?_
            refine RG.vl rfl rfl rfl (Ev.move rfl rfl) ?_
            refine RG.vl rfl rfl rfl (Ev.isT (Ev.eqI rfl rfl rfl) (rfl)) ?_
            refine RG.vl rfl rfl rfl (Ev.pickT rfl rfl rfl) ?_
            refine RG.vl rfl rfl rfl (Ev.move rfl rfl) ?_
            refine RG.vl rfl rfl rfl (Ev.move rfl rfl) ?_
            refine RG.vl rfl rfl rfl (Ev.isT (Ev.eqI rfl rfl rfl) (rfl)) ?_
            refine RG.vl rfl rfl rfl (Ev.pickT rfl rfl rfl) ?_
            refine RG.vl rfl rfl rfl (Ev.move rfl rfl) ?_
            refine RG.call rfl rfl rfl rfl rfl rfl rfl en_13 (awake_ret _) ?_
            rintro _ w65 ⟨rfl, hx65⟩
            replace hE54 := Ex.tr hE54 hx65
            replace hE56 := Ex.tr hE56 hx65
            replace hE58 := Ex.tr hE58 hx65
            replace hE60 := Ex.tr hE60 hx65
            replace hE62 := Ex.tr hE62 hx65
            replace hE64 := Ex.tr hE64 hx65
            have hE66 := hx65
            refine RG.vl rfl rfl rfl (Ev.pickT rfl rfl rfl) ?_
            refine RG.vl rfl rfl rfl (Ev.assign rfl rfl) ?_
            refine RG.done ?_
            refine QW.sub (S' := [(0, _), (2, _), (6, _), (11, _), (12, _), (13, _), (14, _), (15, _), (16, _)]) ⟨rfl, rfl, rfl, rfl, rfl, rfl, rfl, rfl, rfl, trivial⟩ ?_
            refine QW.then_ ?_
            refine CW.ret ?_
            refine QW.blockR ?_
            refine QW.thenRet ?_
            refine QW.ret1 rfl rfl ?_
            have hB := (Ex.tr hB0 hE54)
            exact ⟨rfl, hB⟩
          · refine CW.region ?_
            refine RG.vl rfl rfl rfl (Ev.move rfl rfl) ?_
            refine RG.vl rfl rfl rfl (Ev.move rfl rfl) ?_
            refine RG.call rfl rfl rfl rfl rfl rfl rfl en_14 (Add_bad 0 b _ (by omega) (by omega) (by omega)) ?_
            rintro _ w67 ⟨rfl, hx67⟩
            have hE68 := hx67
            refine RG.vl rfl rfl rfl (Ev.move rfl rfl) ?_
            refine RG.vl rfl rfl rfl (Ev.extract rfl rfl rfl) ?_
            refine RG.vl rfl rfl rfl (Ev.extract rfl rfl rfl) ?_
            refine RG.vl rfl rfl rfl (Ev.assign rfl rfl) ?_
            refine RG.vl rfl rfl rfl (Ev.assign rfl rfl) ?_
            refine RG.done ?_
            refine QW.then_ ?_
            refine CW.seq ?_
            refine CW.region ?_
            refine RG.vl rfl rfl rfl (Ev.move rfl rfl) ?_
            refine RG.vl rfl rfl rfl (Ev.move rfl rfl) ?_
            refine RG.call rfl rfl rfl rfl rfl rfl rfl en_15 (Mul_bad 0 b _ (by omega)) ?_
            rintro _ w69 ⟨rfl, hx69⟩
            replace hE68 := Ex.tr hE68 hx69
            have hE70 := hx69
            refine RG.vl rfl rfl rfl (Ev.move rfl rfl) ?_
            refine RG.vl rfl rfl rfl (Ev.extract rfl rfl rfl) ?_
            refine RG.vl rfl rfl rfl (Ev.extract rfl rfl rfl) ?_
            refine RG.vl rfl rfl rfl (Ev.assign rfl rfl) ?_
            refine RG.vl rfl rfl rfl (Ev.assign rfl rfl) ?_
            refine RG.done ?_
            refine QW.sub (S' := [(0, _), (1, _), (2, _), (6, _), (7, _), (8, _), (9, _), (10, _)]) ⟨rfl, rfl, rfl, rfl, rfl, rfl, rfl, rfl, trivial⟩ ?_
            refine QW.then_ ?_
            refine CW.seq ?_
            refine CW.region ?_
            refine RG.vl rfl rfl rfl (Ev.move rfl rfl) ?_
            refine RG.call rfl rfl rfl rfl rfl rfl rfl en_16 (Inv_z _) ?_
            rintro _ w71 ⟨rfl, hx71⟩
            replace hE68 := Ex.tr hE68 hx71
            replace hE70 := Ex.tr hE70 hx71
            have hE72 := hx71
            refine RG.vl rfl rfl rfl (Ev.move rfl rfl) ?_
            refine RG.vl rfl rfl rfl (Ev.extract rfl rfl rfl) ?_
            refine RG.vl rfl rfl rfl (Ev.extract rfl rfl rfl) ?_
            refine RG.vl rfl rfl rfl (Ev.assign rfl rfl) ?_
            refine RG.vl rfl rfl rfl (Ev.assign rfl rfl) ?_
            refine RG.done ?_
            refine QW.then_ ?_
            refine CW.seq ?_
            refine CW.region ?_
            refine RG.vl rfl rfl rfl (Ev.move rfl rfl) ?_
            refine RG.vl rfl rfl rfl (Ev.move rfl rfl) ?_
            refine RG.call rfl rfl rfl rfl rfl rfl rfl en_11 (Pow_z n _ (r := 0) (e := 0) (by simp [hn0]) (by simp; omega)) ?_
            rintro _ w73 ⟨rfl, hx73⟩
            replace hE68 := Ex.tr hE68 hx73
            replace hE70 := Ex.tr hE70 hx73
            replace hE72 := Ex.tr hE72 hx73
            have hE74 := hx73
            refine RG.vl rfl rfl rfl (Ev.move rfl rfl) ?_
            refine RG.vl rfl rfl rfl (Ev.extract rfl rfl rfl) ?_
            refine RG.vl rfl rfl rfl (Ev.extract rfl rfl rfl) ?_
            refine RG.vl rfl rfl rfl (Ev.assign rfl rfl) ?_
            refine RG.vl rfl rfl rfl (Ev.assign rfl rfl) ?_
            refine RG.done ?_
            refine QW.sub (S' := [(0, _), (1, _), (2, _), (6, _), (7, _), (8, _), (9, _), (10, _), (11, _), (12, _), (13, _), (14, _)]) ⟨rfl, rfl, rfl, rfl, rfl, rfl, rfl, rfl, rfl, rfl, rfl, rfl, trivial⟩ ?_
            refine QW.then_ ?_
            refine CW.seq ?_
            refine CW.region ?_
            refine RG.vl rfl rfl rfl (Ev.move rfl rfl) ?_
            refine RG.call rfl rfl rfl rfl rfl rfl rfl en_17 (Log_z _) ?_
            rintro _ w75 ⟨rfl, hx75⟩
            replace hE68 := Ex.tr hE68 hx75
            replace hE70 := Ex.tr hE70 hx75
            replace hE72 := Ex.tr hE72 hx75
            replace hE74 := Ex.tr hE74 hx75
            have hE76 := hx75
            refine RG.vl rfl rfl rfl (Ev.move rfl rfl) ?_
            refine RG.vl rfl rfl rfl (Ev.extract rfl rfl rfl) ?_
            refine RG.vl rfl rfl rfl (Ev.extract rfl rfl rfl) ?_
            refine RG.vl rfl rfl rfl (Ev.assign rfl rfl) ?_
            refine RG.vl rfl rfl rfl (Ev.assign rfl rfl) ?_
            refine RG.done ?_
            refine QW.then_ ?_
            refine CW.seq ?_
            refine CW.seq ?_
            refine CW.region ?_
            refine RG.vl rfl rfl rfl (Ev.move rfl rfl) ?_
            refine RG.vl rfl rfl rfl (Ev.isF (Ev.gtr rfl rfl rfl) (by omega)) ?_
            refine RG.vl rfl rfl rfl (Ev.move rfl rfl) ?_
            refine RG.vl rfl rfl rfl (Ev.move rfl rfl) ?_
            refine RG.vl rfl rfl rfl (Ev.isT (Ev.gtr rfl rfl rfl) (by omega)) ?_
            refine RG.vl rfl rfl rfl (Ev.pickF rfl rfl rfl) ?_
            refine RG.done ?_
            refine QW.then_ ?_
            refine CW.condT rfl ?_
            refine CW.seq ?_
            refine CW.region ?_
            refine RG.vl rfl rfl rfl (Ev.move rfl rfl) ?_
            refine RG.vl rfl rfl rfl (Ev.isF (Ev.neI rfl rfl rfl) (by decide)) ?_
            refine RG.vl rfl rfl rfl (Ev.move rfl rfl) ?_
            refine RG.vl rfl rfl rfl (Ev.move rfl rfl) ?_
            refine RG.vl rfl rfl rfl (Ev.move rfl rfl) ?_
            refine RG.vl rfl rfl rfl (Ev.isF (Ev.neI rfl rfl rfl) (by decide)) ?_
            refine RG.vl rfl rfl rfl (Ev.pickF rfl rfl rfl) ?_
            refine RG.vl rfl rfl rfl (Ev.move rfl rfl) ?_
            refine RG.vl rfl rfl rfl (Ev.move rfl rfl) ?_
            refine RG.vl rfl rfl rfl (Ev.isF (Ev.neI rfl rfl rfl) (by decide)) ?_
            refine RG.vl rfl rfl rfl (Ev.pickF rfl rfl rfl) ?_
            refine RG.vl rfl rfl rfl (Ev.move rfl rfl) ?_
            refine RG.vl rfl rfl rfl (Ev.move rfl rfl) ?_
            refine RG.vl rfl rfl rfl (Ev.isF (Ev.neI rfl rfl rfl) (by decide)) ?_
            refine RG.vl rfl rfl rfl (Ev.pickF rfl rfl rfl) ?_
            refine RG.done ?_
            refine QW.sub (S' := [(0, _), (2, _), (6, _), (11, _), (12, _), (13, _), (14, _), (15, _), (16, _), (68, _)]) ⟨rfl, rfl, rfl, rfl, rfl, rfl, rfl, rfl, rfl, rfl, trivial⟩ ?_
            refine QW.then_ ?_
            refine CW.condF rfl ?_
            refine CW.skip ?_
            refine QW.then_ ?_
            refine CW.seq ?_
            refine CW.block ?_
            refine CW.seq ?_
            refine CW.region ?_
            refine RG.vl rfl rfl rfl (Ev.move rfl rfl) ?_
            refine RG.vl rfl rfl rfl (Ev.isF (Ev.gtr rfl rfl rfl) (by omega)) ?_
            refine RG.vl rfl rfl rfl (Ev.assign rfl rfl) ?_
            refine RG.done ?_
            refine QW.then_ ?_
            refine CW.condF rfl ?_
            refine CW.seq ?_
            refine CW.region ?_
            refine RG.vl rfl rfl rfl (Ev.move rfl rfl) ?_
            refine RG.vl rfl rfl rfl (Ev.isT (Ev.eqI rfl rfl rfl) (rfl)) ?_
            refine RG.vl rfl rfl rfl (Ev.assign rfl rfl) ?_
            refine RG.done ?_
            refine QW.then_ ?_
            refine CW.condT rfl ?_
            refine CW.seq ?_
            refine CW.region ?_
            refine RG.vl rfl rfl rfl (Ev.assign rfl rfl) ?_
            refine RG.vl rfl rfl rfl (Ev.assign rfl rfl) ?_
            refine RG.done ?_
            refine QW.then_ ?_
            refine CW.seq ?_
            refine CW.seq ?_
            refine CW.region ?_
            refine RG.vl rfl rfl rfl (Ev.move rfl rfl) ?_
            refine RG.vl rfl rfl rfl (Ev.isF (Ev.eqI rfl rfl rfl) (by omega)) ?_
            refine RG.done ?_
            refine QW.then_ ?_
            refine CW.condF rfl ?_
            refine CW.skip ?_
            refine QW.then_ ?_
            refine CW.seq ?_
            refine CW.seq ?_
            refine CW.region ?_
            refine RG.vl rfl rfl rfl (Ev.move rfl rfl) ?_
            refine RG.vl rfl rfl rfl (Ev.isF (Ev.lss rfl rfl rfl) (by omega)) ?_
            refine RG.done ?_
            refine QW.then_ ?_
            refine CW.condF rfl ?_
            refine CW.skip ?_
            refine QW.then_ ?_
            refine CW.seq ?_
            refine CW.region ?_
            refine RG.vl rfl rfl rfl (Ev.move rfl rfl) ?_
            refine RG.vl rfl rfl rfl (Ev.isT (Ev.eqI rfl rfl rfl) (rfl)) ?_
            refine RG.vl rfl rfl rfl (Ev.move rfl rfl) ?_
            refine RG.vl rfl rfl rfl (Ev.move rfl rfl) ?_
            refine RG.vl rfl rfl rfl (Ev.move rfl rfl) ?_
            refine RG.vl rfl rfl rfl (Ev.isT (Ev.eqI rfl rfl rfl) (rfl)) ?_
            refine RG.vl rfl rfl rfl (Ev.pickT rfl rfl rfl) ?_
            refine RG.vl rfl rfl rfl (Ev.move rfl rfl) ?_
            refine RG.vl rfl rfl rfl (Ev.move rfl rfl) ?_
            refine RG.vl rfl rfl rfl (Ev.move rfl rfl) ?_
            refine RG.vl rfl rfl rfl (Ev.isT (Ev.eqI rfl rfl rfl) (rfl)) ?_
            refine RG.vl rfl rfl rfl (Ev.pickT rfl rfl rfl) ?_
            refine RG.vl rfl rfl rfl (Ev.move rfl rfl) ?_
            refine RG.vl rfl rfl rfl (Ev.move rfl rfl) ?_
            refine RG.vl rfl rfl rfl (Ev.isT (Ev.eqI rfl rfl rfl) (rfl)) ?_
            refine RG.vl rfl rfl rfl (Ev.pickT rfl rfl rfl) ?_
            refine RG.vl rfl rfl rfl (Ev.move rfl rfl) ?_
            refine RG.vl rfl rfl rfl (Ev.move rfl rfl) ?_
            refine RG.vl rfl rfl rfl (Ev.move rfl rfl) ?_
            refine RG.vl rfl rfl rfl (Ev.isT (Ev.eqI rfl rfl rfl) (rfl)) ?_
            refine RG.vl rfl rfl rfl (Ev.pickT rfl rfl rfl) ?_
            refine RG.vl rfl rfl rfl (Ev.move rfl rfl) ?_
            refine RG.vl rfl rfl rfl (Ev.move rfl rfl) ?_
            refine RG.vl rfl rfl rfl (Ev.isT (Ev.eqI rfl rfl rfl) (rfl)) ?_
            refine RG.vl rfl rfl rfl (Ev.pickT rfl rfl rfl) ?_
            refine RG.vl rfl rfl rfl (Ev.move rfl rfl) ?_
            refine RG.call rfl rfl rfl rfl rfl rfl rfl en_13 (awake_ret _) ?_
            rintro _ w77 ⟨rfl, hx77⟩
            replace hE68 := Ex.tr hE68 hx77
            replace hE70 := Ex.tr hE70 hx77
            replace hE72 := Ex.tr hE72 hx77
            replace hE74 := Ex.tr hE74 hx77
            replace hE76 := Ex.tr hE76 hx77
            have hE78 := hx77
            refine RG.vl rfl rfl rfl (Ev.pickT rfl rfl rfl) ?_
            refine RG.vl rfl rfl rfl (Ev.assign rfl rfl) ?_
            refine RG.done ?_
            refine QW.sub (S' := [(0, _), (2, _), (6, _), (11, _), (12, _), (13, _), (14, _), (15, _), (16, _)]) ⟨rfl, rfl, rfl, rfl, rfl, rfl, rfl, rfl, rfl, trivial⟩ ?_
            refine QW.then_ ?_
            refine CW.ret ?_
            refine QW.blockR ?_
            refine QW.thenRet ?_
            refine QW.ret1 rfl rfl ?_
            have hB := (Ex.tr hB0 hE68)
            exact ⟨rfl, hB⟩
    · by_cases hb64 : b < 64
      · refine CW.region ?_
        refine RG.vl rfl rfl rfl (Ev.move rfl rfl) ?_
        refine RG.vl rfl rfl rfl (Ev.move rfl rfl) ?_
        refine RG.call rfl rfl rfl rfl rfl rfl rfl en_14 (Add_el a b _ (by omega) (by omega)) ?_
        rintro _ w79 ⟨rfl, hx79⟩
        have hE80 := hx79
        refine RG.vl rfl rfl rfl (Ev.move rfl rfl) ?_
        refine RG.vl rfl rfl rfl (Ev.extract rfl rfl rfl) ?_
        refine RG.vl rfl rfl rfl (Ev.extract rfl rfl rfl) ?_
        refine RG.vl rfl rfl rfl (Ev.assign rfl rfl) ?_
        refine RG.vl rfl rfl rfl (Ev.assign rfl rfl) ?_
        refine RG.done ?_
        refine QW.then_ ?_
        refine CW.seq ?_
        refine CW.region ?_
        refine RG.vl rfl rfl rfl (Ev.move rfl rfl) ?_
        refine RG.vl rfl rfl rfl (Ev.move rfl rfl) ?_
        refine RG.call rfl rfl rfl rfl rfl rfl rfl en_15 (Mul_el a b _ (by omega) (by omega)) ?_
        rintro _ w81 ⟨rfl, hx81⟩
        replace hE80 := Ex.tr hE80 hx81
        have hE82 := hx81
        refine RG.vl rfl rfl rfl (Ev.move rfl rfl) ?_
        refine RG.vl rfl rfl rfl (Ev.extract rfl rfl rfl) ?_
        refine RG.vl rfl rfl rfl (Ev.extract rfl rfl rfl) ?_
        refine RG.vl rfl rfl rfl (Ev.assign rfl rfl) ?_
        refine RG.vl rfl rfl rfl (Ev.assign rfl rfl) ?_
        refine RG.done ?_
        refine QW.sub (S' := [(0, _), (1, _), (2, _), (6, _), (7, _), (8, _), (9, _), (10, _)]) ⟨rfl, rfl, rfl, rfl, rfl, rfl, rfl, rfl, trivial⟩ ?_
        refine QW.then_ ?_
        refine CW.seq ?_
        refine CW.region ?_
        refine RG.vl rfl rfl rfl (Ev.move rfl rfl) ?_
        refine RG.call rfl rfl rfl rfl rfl rfl rfl en_16 (Inv_el a _ ha64 ha0) ?_
        rintro _ w83 ⟨rfl, hx83⟩
        replace hE80 := Ex.tr hE80 hx83
        replace hE82 := Ex.tr hE82 hx83
        have hE84 := hx83
        refine RG.vl rfl rfl rfl (Ev.move rfl rfl) ?_
        refine RG.vl rfl rfl rfl (Ev.extract rfl rfl rfl) ?_
        refine RG.vl rfl rfl rfl (Ev.extract rfl rfl rfl) ?_
        refine RG.vl rfl rfl rfl (Ev.assign rfl rfl) ?_
        refine RG.vl rfl rfl rfl (Ev.assign rfl rfl) ?_
        refine RG.done ?_
        refine QW.then_ ?_
        refine CW.seq ?_
        refine CW.region ?_
        refine RG.vl rfl rfl rfl (Ev.move rfl rfl) ?_
        refine RG.vl rfl rfl rfl (Ev.move rfl rfl) ?_
        refine RG.call rfl rfl rfl rfl rfl rfl rfl en_11 (Pow_el a n _ ha64 ha0) ?_
        rintro _ w85 ⟨rfl, hx85⟩
        replace hE80 := Ex.tr hE80 hx85
        replace hE82 := Ex.tr hE82 hx85
        replace hE84 := Ex.tr hE84 hx85
        have hE86 := hx85
        refine RG.vl rfl rfl rfl (Ev.move rfl rfl) ?_
        refine RG.vl rfl rfl rfl (Ev.extract rfl rfl rfl) ?_
        refine RG.vl rfl rfl rfl (Ev.extract rfl rfl rfl) ?_
        refine RG.vl rfl rfl rfl (Ev.assign rfl rfl) ?_
        refine RG.vl rfl rfl rfl (Ev.assign rfl rfl) ?_
        refine RG.done ?_
        refine QW.sub (S' := [(0, _), (1, _), (2, _), (6, _), (7, _), (8, _), (9, _), (10, _), (11, _), (12, _), (13, _), (14, _)]) ⟨rfl, rfl, rfl, rfl, rfl, rfl, rfl, rfl, rfl, rfl, rfl, rfl, trivial⟩ ?_
        refine QW.then_ ?_
        refine CW.seq ?_
        refine CW.region ?_
        refine RG.vl rfl rfl rfl (Ev.move rfl rfl) ?_
        refine RG.call rfl rfl rfl rfl rfl rfl rfl en_17 (Log_el a _ ha64 ha0) ?_
        rintro _ w87 ⟨rfl, hx87⟩
        replace hE80 := Ex.tr hE80 hx87
        replace hE82 := Ex.tr hE82 hx87
        replace hE84 := Ex.tr hE84 hx87
        replace hE86 := Ex.tr hE86 hx87
        have hE88 := hx87
        refine RG.vl rfl rfl rfl (Ev.move rfl rfl) ?_
        refine RG.vl rfl rfl rfl (Ev.extract rfl rfl rfl) ?_
        refine RG.vl rfl rfl rfl (Ev.extract rfl rfl rfl) ?_
        refine RG.vl rfl rfl rfl (Ev.assign rfl rfl) ?_
        refine RG.vl rfl rfl rfl (Ev.assign rfl rfl) ?_
        refine RG.done ?_
        refine QW.then_ ?_
        refine CW.seq ?_
        refine CW.seq ?_
        refine CW.region ?_
        refine RG.vl rfl rfl rfl (Ev.move rfl rfl) ?_
        refine RG.vl rfl rfl rfl (Ev.isF (Ev.gtr rfl rfl rfl) (by omega)) ?_
        refine RG.vl rfl rfl rfl (Ev.move rfl rfl) ?_
        refine RG.vl rfl rfl rfl (Ev.move rfl rfl) ?_
        refine RG.vl rfl rfl rfl (Ev.isF (Ev.gtr rfl rfl rfl) (by omega)) ?_
        refine RG.vl rfl rfl rfl (Ev.pickF rfl rfl rfl) ?_
        refine RG.done ?_
        refine QW.then_ ?_
        refine CW.condF rfl ?_
        refine CW.seq ?_
        refine CW.region ?_
        refine RG.vl rfl rfl rfl (Ev.move rfl rfl) ?_
        refine RG.vl rfl rfl rfl (Ev.isF (Ev.neI rfl rfl rfl) (by decide)) ?_
        refine RG.vl rfl rfl rfl (Ev.move rfl rfl) ?_
        refine RG.vl rfl rfl rfl (Ev.move rfl rfl) ?_
        refine RG.vl rfl rfl rfl (Ev.move rfl rfl) ?_
        refine RG.vl rfl rfl rfl (Ev.isF (Ev.neI rfl rfl rfl) (by decide)) ?_
        refine RG.vl rfl rfl rfl (Ev.pickF rfl rfl rfl) ?_
        refine RG.vl rfl rfl rfl (Ev.move rfl rfl) ?_
        refine RG.vl rfl rfl rfl (Ev.move rfl rfl) ?_
        refine RG.vl rfl rfl rfl (Ev.move rfl rfl) ?_
        refine RG.vl rfl rfl rfl (Ev.move rfl rfl) ?_
        refine RG.vl rfl rfl rfl (Ev.xor8 rfl rfl rfl (by omega) (by omega)) ?_
        refine RG.vl rfl rfl rfl (Ev.isF (Ev.neI rfl rfl rfl) (fun h => h rfl)) ?_
        refine RG.vl rfl rfl rfl (Ev.pickF rfl rfl rfl) ?_
        refine RG.vl rfl rfl rfl (Ev.move rfl rfl) ?_
        refine RG.vl rfl rfl rfl (Ev.move rfl rfl) ?_
        refine RG.vl rfl rfl rfl (Ev.move rfl rfl) ?_
        refine RG.vl rfl rfl rfl (Ev.move rfl rfl) ?_
        refine RG.call rfl rfl rfl rfl rfl rfl rfl en_18 (rmul_ret a b _ (by omega) (by omega)) ?_
        rintro _ w89 ⟨rfl, hx89⟩
        replace hE80 := Ex.tr hE80 hx89
        replace hE82 := Ex.tr hE82 hx89
        replace hE84 := Ex.tr hE84 hx89
        replace hE86 := Ex.tr hE86 hx89
        replace hE88 := Ex.tr hE88 hx89
        have hE90 := hx89
        refine RG.vl rfl rfl rfl (Ev.isF (Ev.neI rfl rfl rfl) (fun h => h rfl)) ?_
        refine RG.vl rfl rfl rfl (Ev.pickF rfl rfl rfl) ?_
        refine RG.done ?_
        refine QW.sub (S' := [(0, _), (2, _), (6, _), (11, _), (12, _), (13, _), (14, _), (15, _), (16, _), (89, _)]) ⟨rfl, rfl, rfl, rfl, rfl, rfl, rfl, rfl, rfl, rfl, trivial⟩ ?_
        refine QW.then_ ?_
        refine CW.condF rfl ?_
        refine CW.skip ?_
        refine QW.then_ ?_
        refine CW.seq ?_
        refine CW.block ?_
        refine CW.seq ?_
        refine CW.region ?_
        refine RG.vl rfl rfl rfl (Ev.move rfl rfl) ?_
        refine RG.vl rfl rfl rfl (Ev.isF (Ev.gtr rfl rfl rfl) (by omega)) ?_
        refine RG.vl rfl rfl rfl (Ev.assign rfl rfl) ?_
        refine RG.done ?_
        refine QW.then_ ?_
        refine CW.condF rfl ?_
        refine CW.seq ?_
        refine CW.region ?_
        refine RG.vl rfl rfl rfl (Ev.move rfl rfl) ?_
        refine RG.vl rfl rfl rfl (Ev.isF (Ev.eqI rfl rfl rfl) (by omega)) ?_
        refine RG.vl rfl rfl rfl (Ev.assign rfl rfl) ?_
        refine RG.done ?_
        refine QW.then_ ?_
        refine CW.condF rfl ?_
        refine CW.skip ?_
        refine QW.blockN ?_
        refine QW.then_ ?_
        refine CW.seq ?_
        obtain ⟨t, ht, ht1, ht2, ht3⟩ := rem63 n
        refine CW.region ?_
        refine RG.vl rfl rfl rfl (Ev.move rfl rfl) ?_
        refine RG.vl rfl rfl rfl ((Ev.remT rfl rfl rfl (by omega)).conv (congrArg (Value.int .i64) ht)) ?_
        refine RG.vl rfl rfl rfl (Ev.assign rfl rfl) ?_
        refine RG.done ?_
        refine QW.then_ ?_
        refine CW.seq ?_
        refine CW.seq ?_
        refine CW.region ?_
        refine RG.vl rfl rfl rfl (Ev.move rfl rfl) ?_
        refine RG.vl rfl rfl rfl (Ev.lss rfl rfl rfl) ?_
        refine RG.done ?_
        refine QW.then_ ?_
        refine CW.condP rfl (fun hc91 => ?_) (fun hc91 => ?_)
        · refine CW.region ?_
          refine RG.vl rfl rfl rfl (Ev.move rfl rfl) ?_
          refine RG.vl rfl rfl rfl (Ev.addI rfl rfl rfl (by omega)) ?_
          refine RG.vl rfl rfl rfl (Ev.assign rfl rfl) ?_
          refine RG.done ?_
          refine QW.sub (S' := [(0, _), (6, _), (11, _), (12, _), (13, _), (14, _), (15, _), (16, _), (19, _)]) ⟨rfl, rfl, rfl, rfl, rfl, rfl, rfl, rfl, rfl, trivial⟩ ?_
          refine QW.then_ ?_
          refine CW.seq ?_
          obtain ⟨m, hm⟩ : ∃ m : Nat, t + 63 = (m : Int) := ⟨(t + 63).toNat, by omega⟩
          refine CW.region ?_
          refine RG.vl rfl rfl rfl (Ev.move rfl rfl) ?_
          refine RG.vl rfl rfl rfl (Ev.isT (Ev.eqI rfl rfl rfl) (rfl)) ?_
          refine RG.vl rfl rfl rfl (Ev.move rfl rfl) ?_
          refine RG.vl rfl rfl rfl (Ev.move rfl rfl) ?_
          refine RG.vl rfl rfl rfl (Ev.move rfl rfl) ?_
          refine RG.vl rfl rfl rfl (Ev.isT (Ev.eqI rfl rfl rfl) (rfl)) ?_
          refine RG.vl rfl rfl rfl (Ev.pickT rfl rfl rfl) ?_
          refine RG.vl rfl rfl rfl (Ev.move rfl rfl) ?_
          refine RG.vl rfl rfl rfl (Ev.move rfl rfl) ?_
          refine RG.vl rfl rfl rfl (Ev.move rfl rfl) ?_
          refine RG.vl rfl rfl rfl (Ev.isT (Ev.eqI rfl rfl rfl) (rfl)) ?_
          refine RG.vl rfl rfl rfl (Ev.pickT rfl rfl rfl) ?_
          refine RG.vl rfl rfl rfl (Ev.move rfl rfl) ?_
          refine RG.vl rfl rfl rfl (Ev.move rfl rfl) ?_
          refine RG.vl rfl rfl rfl (Ev.move rfl rfl) ?_
          refine RG.call rfl rfl rfl rfl rfl rfl rfl en_19 (rinv_ret a _ ha64) ?_
          rintro _ w92 ⟨rfl, hx92⟩
          replace hE80 := Ex.tr hE80 hx92
          replace hE82 := Ex.tr hE82 hx92
          replace hE84 := Ex.tr hE84 hx92
          replace hE86 := Ex.tr hE86 hx92
          replace hE88 := Ex.tr hE88 hx92
          replace hE90 := Ex.tr hE90 hx92
          have hE93 := hx92
          refine RG.vl rfl rfl rfl (Ev.isT (Ev.eqI rfl rfl rfl) (by rw [if_neg ha0, pwr_gi a ha64 ha0])) ?_
          refine RG.vl rfl rfl rfl (Ev.pickT rfl rfl rfl) ?_
          refine RG.vl rfl rfl rfl (Ev.move rfl rfl) ?_
          refine RG.vl rfl rfl rfl (Ev.move rfl rfl) ?_
          refine RG.vl rfl rfl rfl (Ev.move rfl rfl) ?_
          refine RG.call rfl rfl rfl rfl rfl rfl rfl en_20 (rlog_ret a _ ha64 ha0) ?_
          rintro _ w94 ⟨rfl, hx94⟩
          replace hE80 := Ex.tr hE80 hx94
          replace hE82 := Ex.tr hE82 hx94
          replace hE84 := Ex.tr hE84 hx94
          replace hE86 := Ex.tr hE86 hx94
          replace hE88 := Ex.tr hE88 hx94
          replace hE90 := Ex.tr hE90 hx94
          replace hE93 := Ex.tr hE93 hx94
          have hE95 := hx94
          refine RG.vl rfl rfl rfl (Ev.isT (Ev.eqI rfl rfl rfl) (rfl)) ?_
          refine RG.vl rfl rfl rfl (Ev.pickT rfl rfl rfl) ?_
          refine RG.vl rfl rfl rfl (Ev.move rfl rfl) ?_
          refine RG.vl rfl rfl rfl (Ev.move rfl rfl) ?_
          refine RG.vl rfl rfl rfl (Ev.move rfl rfl) ?_
          refine RG.vl rfl rfl rfl ((Ev.move rfl rfl).conv (congrArg (Value.int .i64) hm)) ?_
          refine RG.call rfl rfl rfl rfl rfl rfl rfl en_21 (rpow_ret a m _ ha64 (by omega)) ?_
          rintro _ w96 ⟨rfl, hx96⟩
          replace hE80 := Ex.tr hE80 hx96
          replace hE82 := Ex.tr hE82 hx96
          replace hE84 := Ex.tr hE84 hx96
          replace hE86 := Ex.tr hE86 hx96
          replace hE88 := Ex.tr hE88 hx96
          replace hE90 := Ex.tr hE90 hx96
          replace hE93 := Ex.tr hE93 hx96
          replace hE95 := Ex.tr hE95 hx96
          have hE97 := hx96
          refine RG.vl rfl rfl rfl (Ev.isT (Ev.eqI rfl rfl rfl) (by rw [pwr_gp a n m ha0 (by omega)])) ?_
          refine RG.vl rfl rfl rfl (Ev.pickT rfl rfl rfl) ?_
          refine RG.vl rfl rfl rfl (Ev.move rfl rfl) ?_
          refine RG.call rfl rfl rfl rfl rfl rfl rfl en_13 (awake_ret _) ?_
          rintro _ w98 ⟨rfl, hx98⟩
          replace hE80 := Ex.tr hE80 hx98
          replace hE82 := Ex.tr hE82 hx98
          replace hE84 := Ex.tr hE84 hx98
          replace hE86 := Ex.tr hE86 hx98
          replace hE88 := Ex.tr hE88 hx98
          replace hE90 := Ex.tr hE90 hx98
          replace hE93 := Ex.tr hE93 hx98
          replace hE95 := Ex.tr hE95 hx98
          replace hE97 := Ex.tr hE97 hx98
          have hE99 := hx98
          refine RG.vl rfl rfl rfl (Ev.pickT rfl rfl rfl) ?_
          refine RG.vl rfl rfl rfl (Ev.assign rfl rfl) ?_
          refine RG.done ?_
          refine QW.sub (S' := [(6, _)]) ⟨rfl, trivial⟩ ?_
          refine QW.then_ ?_
          refine CW.ret ?_
          refine QW.ret1 rfl rfl ?_
          have hB := (Ex.tr hB0 hE80)
          exact ⟨rfl, hB⟩
        · refine CW.skip ?_
          refine QW.then_ ?_
          refine CW.seq ?_
          obtain ⟨m, hm⟩ : ∃ m : Nat, t = (m : Int) := ⟨t.toNat, by omega⟩
          refine CW.region ?_
          refine RG.vl rfl rfl rfl (Ev.move rfl rfl) ?_
          refine RG.vl rfl rfl rfl (Ev.isT (Ev.eqI rfl rfl rfl) (rfl)) ?_
          refine RG.vl rfl rfl rfl (Ev.move rfl rfl) ?_
          refine RG.vl rfl rfl rfl (Ev.move rfl rfl) ?_
          refine RG.vl rfl rfl rfl (Ev.move rfl rfl) ?_
          refine RG.vl rfl rfl rfl (Ev.isT (Ev.eqI rfl rfl rfl) (rfl)) ?_
          refine RG.vl rfl rfl rfl (Ev.pickT rfl rfl rfl) ?_
          refine RG.vl rfl rfl rfl (Ev.move rfl rfl) ?_
          refine RG.vl rfl rfl rfl (Ev.move rfl rfl) ?_
          refine RG.vl rfl rfl rfl (Ev.move rfl rfl) ?_
          refine RG.vl rfl rfl rfl (Ev.isT (Ev.eqI rfl rfl rfl) (rfl)) ?_
          refine RG.vl rfl rfl rfl (Ev.pickT rfl rfl rfl) ?_
          refine RG.vl rfl rfl rfl (Ev.move rfl rfl) ?_
          refine RG.vl rfl rfl rfl (Ev.move rfl rfl) ?_
          refine RG.vl rfl rfl rfl (Ev.move rfl rfl) ?_
          refine RG.call rfl rfl rfl rfl rfl rfl rfl en_19 (rinv_ret a _ ha64) ?_
          rintro _ w100 ⟨rfl, hx100⟩
          replace hE80 := Ex.tr hE80 hx100
          replace hE82 := Ex.tr hE82 hx100
          replace hE84 := Ex.tr hE84 hx100
          replace hE86 := Ex.tr hE86 hx100
          replace hE88 := Ex.tr hE88 hx100
          replace hE90 := Ex.tr hE90 hx100
          have hE101 := hx100
          refine RG.vl rfl rfl rfl (Ev.isT (Ev.eqI rfl rfl rfl) (by rw [if_neg ha0, pwr_gi a ha64 ha0])) ?_
          refine RG.vl rfl rfl rfl (Ev.pickT rfl rfl rfl) ?_
          refine RG.vl rfl rfl rfl (Ev.move rfl rfl) ?_
          refine RG.vl rfl rfl rfl (Ev.move rfl rfl) ?_
          refine RG.vl rfl rfl rfl (Ev.move rfl rfl) ?_
          refine RG.call rfl rfl rfl rfl rfl rfl rfl en_20 (rlog_ret a _ ha64 ha0) ?_
          rintro _ w102 ⟨rfl, hx102⟩
          replace hE80 := Ex.tr hE80 hx102
          replace hE82 := Ex.tr hE82 hx102
          replace hE84 := Ex.tr hE84 hx102
          replace hE86 := Ex.tr hE86 hx102
          replace hE88 := Ex.tr hE88 hx102
          replace hE90 := Ex.tr hE90 hx102
          replace hE101 := Ex.tr hE101 hx102
          have hE103 := hx102
          refine RG.vl rfl rfl rfl (Ev.isT (Ev.eqI rfl rfl rfl) (rfl)) ?_
          refine RG.vl rfl rfl rfl (Ev.pickT rfl rfl rfl) ?_
          refine RG.vl rfl rfl rfl (Ev.move rfl rfl) ?_
          refine RG.vl rfl rfl rfl (Ev.move rfl rfl) ?_
          refine RG.vl rfl rfl rfl (Ev.move rfl rfl) ?_
          refine RG.vl rfl rfl rfl ((Ev.move rfl rfl).conv (congrArg (Value.int .i64) hm)) ?_
          refine RG.call rfl rfl rfl rfl rfl rfl rfl en_21 (rpow_ret a m _ ha64 (by omega)) ?_
          rintro _ w104 ⟨rfl, hx104⟩
          replace hE80 := Ex.tr hE80 hx104
          replace hE82 := Ex.tr hE82 hx104
          replace hE84 := Ex.tr hE84 hx104
          replace hE86 := Ex.tr hE86 hx104
          replace hE88 := Ex.tr hE88 hx104
          replace hE90 := Ex.tr hE90 hx104
          replace hE101 := Ex.tr hE101 hx104
          replace hE103 := Ex.tr hE103 hx104
          have hE105 := hx104
          refine RG.vl rfl rfl rfl (Ev.isT (Ev.eqI rfl rfl rfl) (by rw [pwr_gp a n m ha0 (by omega)])) ?_
          refine RG.vl rfl rfl rfl (Ev.pickT rfl rfl rfl) ?_
          refine RG.vl rfl rfl rfl (Ev.move rfl rfl) ?_
          refine RG.call rfl rfl rfl rfl rfl rfl rfl en_13 (awake_ret _) ?_
          rintro _ w106 ⟨rfl, hx106⟩
          replace hE80 := Ex.tr hE80 hx106
          replace hE82 := Ex.tr hE82 hx106
          replace hE84 := Ex.tr hE84 hx106
          replace hE86 := Ex.tr hE86 hx106
          replace hE88 := Ex.tr hE88 hx106
          replace hE90 := Ex.tr hE90 hx106
          replace hE101 := Ex.tr hE101 hx106
          replace hE103 := Ex.tr hE103 hx106
          replace hE105 := Ex.tr hE105 hx106
          have hE107 := hx106
          refine RG.vl rfl rfl rfl (Ev.pickT rfl rfl rfl) ?_
          refine RG.vl rfl rfl rfl (Ev.assign rfl rfl) ?_
          refine RG.done ?_
          refine QW.sub (S' := [(6, _)]) ⟨rfl, trivial⟩ ?_
          refine QW.then_ ?_
          refine CW.ret ?_
          refine QW.ret1 rfl rfl ?_
          have hB := (Ex.tr hB0 hE80)
          exact ⟨rfl, hB⟩
      · refine CW.region ?_
        refine RG.vl rfl rfl rfl (Ev.move rfl rfl) ?_
        refine RG.vl rfl rfl rfl (Ev.move rfl rfl) ?_
        refine RG.call rfl rfl rfl rfl rfl rfl rfl en_14 (Add_bad a b _ (by omega) (by omega) (by omega)) ?_
        rintro _ w108 ⟨rfl, hx108⟩
        have hE109 := hx108
        refine RG.vl rfl rfl rfl (Ev.move rfl rfl) ?_
        refine RG.vl rfl rfl rfl (Ev.extract rfl rfl rfl) ?_
        refine RG.vl rfl rfl rfl (Ev.extract rfl rfl rfl) ?_
        refine RG.vl rfl rfl rfl (Ev.assign rfl rfl) ?_
        refine RG.vl rfl rfl rfl (Ev.assign rfl rfl) ?_
        refine RG.done ?_
        refine QW.then_ ?_
        refine CW.seq ?_
        refine CW.region ?_
        refine RG.vl rfl rfl rfl (Ev.move rfl rfl) ?_
        refine RG.vl rfl rfl rfl (Ev.move rfl rfl) ?_
        refine RG.call rfl rfl rfl rfl rfl rfl rfl en_15 (Mul_bad a b _ (by omega)) ?_
        rintro _ w110 ⟨rfl, hx110⟩
        replace hE109 := Ex.tr hE109 hx110
        have hE111 := hx110
        refine RG.vl rfl rfl rfl (Ev.move rfl rfl) ?_
        refine RG.vl rfl rfl rfl (Ev.extract rfl rfl rfl) ?_
        refine RG.vl rfl rfl rfl (Ev.extract rfl rfl rfl) ?_
        refine RG.vl rfl rfl rfl (Ev.assign rfl rfl) ?_
        refine RG.vl rfl rfl rfl (Ev.assign rfl rfl) ?_
        refine RG.done ?_
        refine QW.sub (S' := [(0, _), (1, _), (2, _), (6, _), (7, _), (8, _), (9, _), (10, _)]) ⟨rfl, rfl, rfl, rfl, rfl, rfl, rfl, rfl, trivial⟩ ?_
        refine QW.then_ ?_
        refine CW.seq ?_
        refine CW.region ?_
        refine RG.vl rfl rfl rfl (Ev.move rfl rfl) ?_
        refine RG.call rfl rfl rfl rfl rfl rfl rfl en_16 (Inv_el a _ ha64 ha0) ?_
        rintro _ w112 ⟨rfl, hx112⟩
        replace hE109 := Ex.tr hE109 hx112
        replace hE111 := Ex.tr hE111 hx112
        have hE113 := hx112
        refine RG.vl rfl rfl rfl (Ev.move rfl rfl) ?_
        refine RG.vl rfl rfl rfl (Ev.extract rfl rfl rfl) ?_
        refine RG.vl rfl rfl rfl (Ev.extract rfl rfl rfl) ?_
        refine RG.vl rfl rfl rfl (Ev.assign rfl rfl) ?_
        refine RG.vl rfl rfl rfl (Ev.assign rfl rfl) ?_
        refine RG.done ?_
        refine QW.then_ ?_
        refine CW.seq ?_
        refine CW.region ?_
        refine RG.vl rfl rfl rfl (Ev.move rfl rfl) ?_
        refine RG.vl rfl rfl rfl (Ev.move rfl rfl) ?_
        refine RG.call rfl rfl rfl rfl rfl rfl rfl en_11 (Pow_el a n _ ha64 ha0) ?_
        rintro _ w114 ⟨rfl, hx114⟩
        replace hE109 := Ex.tr hE109 hx114
        replace hE111 := Ex.tr hE111 hx114
        replace hE113 := Ex.tr hE113 hx114
        have hE115 := hx114
        refine RG.vl rfl rfl rfl (Ev.move rfl rfl) ?_
        refine RG.vl rfl rfl rfl (Ev.extract rfl rfl rfl) ?_
        refine RG.vl rfl rfl rfl (Ev.extract rfl rfl rfl) ?_
        refine RG.vl rfl rfl rfl (Ev.assign rfl rfl) ?_
        refine RG.vl rfl rfl rfl (Ev.assign rfl rfl) ?_
        refine RG.done ?_
        refine QW.sub (S' := [(0, _), (1, _), (2, _), (6, _), (7, _), (8, _), (9, _), (10, _), (11, _), (12, _), (13, _), (14, _)]) ⟨rfl, rfl, rfl, rfl, rfl, rfl, rfl, rfl, rfl, rfl, rfl, rfl, trivial⟩ ?_
        refine QW.then_ ?_
        refine CW.seq ?_
        refine CW.region ?_
        refine RG.vl rfl rfl rfl (Ev.move rfl rfl) ?_
        refine RG.call rfl rfl rfl rfl rfl rfl rfl en_17 (Log_el a _ ha64 ha0) ?_
        rintro _ w116 ⟨rfl, hx116⟩
        replace hE109 := Ex.tr hE109 hx116
        replace hE111 := Ex.tr hE111 hx116
        replace hE113 := Ex.tr hE113 hx116
        replace hE115 := Ex.tr hE115 hx116
        have hE117 := hx116
        refine RG.vl rfl rfl rfl (Ev.move rfl rfl) ?_
        refine RG.vl rfl rfl rfl (Ev.extract rfl rfl rfl) ?_
        refine RG.vl rfl rfl rfl (Ev.extract rfl rfl rfl) ?_
        refine RG.vl rfl rfl rfl (Ev.assign rfl rfl) ?_
        refine RG.vl rfl rfl rfl (Ev.assign rfl rfl) ?_
        refine RG.done ?_
        refine QW.then_ ?_
        refine CW.seq ?_
        refine CW.seq ?_
        refine CW.region ?_
        refine RG.vl rfl rfl rfl (Ev.move rfl rfl) ?_
        refine RG.vl rfl rfl rfl (Ev.isF (Ev.gtr rfl rfl rfl) (by omega)) ?_
        refine RG.vl rfl rfl rfl (Ev.move rfl rfl) ?_
        refine RG.vl rfl rfl rfl (Ev.move rfl rfl) ?_
        refine RG.vl rfl rfl rfl (Ev.isT (Ev.gtr rfl rfl rfl) (by omega)) ?_
        refine RG.vl rfl rfl rfl (Ev.pickF rfl rfl rfl) ?_
        refine RG.done ?_
        refine QW.then_ ?_
        refine CW.condT rfl ?_
        refine CW.seq ?_
        refine CW.region ?_
        refine RG.vl rfl rfl rfl (Ev.move rfl rfl) ?_
        refine RG.vl rfl rfl rfl (Ev.isF (Ev.neI rfl rfl rfl) (by decide)) ?_
        refine RG.vl rfl rfl rfl (Ev.move rfl rfl) ?_
        refine RG.vl rfl rfl rfl (Ev.move rfl rfl) ?_
        refine RG.vl rfl rfl rfl (Ev.move rfl rfl) ?_
        refine RG.vl rfl rfl rfl (Ev.isF (Ev.neI rfl rfl rfl) (by decide)) ?_
        refine RG.vl rfl rfl rfl (Ev.pickF rfl rfl rfl) ?_
        refine RG.vl rfl rfl rfl (Ev.move rfl rfl) ?_
        refine RG.vl rfl rfl rfl (Ev.move rfl rfl) ?_
        refine RG.vl rfl rfl rfl (Ev.isF (Ev.neI rfl rfl rfl) (by decide)) ?_
        refine RG.vl rfl rfl rfl (Ev.pickF rfl rfl rfl) ?_
        refine RG.vl rfl rfl rfl (Ev.move rfl rfl) ?_
        refine RG.vl rfl rfl rfl (Ev.move rfl rfl) ?_
        refine RG.vl rfl rfl rfl (Ev.isF (Ev.neI rfl rfl rfl) (by decide)) ?_
        refine RG.vl rfl rfl rfl (Ev.pickF rfl rfl rfl) ?_
        refine RG.done ?_
        refine QW.sub (S' := [(0, _), (2, _), (6, _), (11, _), (12, _), (13, _), (14, _), (15, _), (16, _), (68, _)]) ⟨rfl, rfl, rfl, rfl, rfl, rfl, rfl, rfl, rfl, rfl, trivial⟩ ?_
        refine QW.then_ ?_
        refine CW.condF rfl ?_
        refine CW.skip ?_
        refine QW.then_ ?_
        refine CW.seq ?_
        refine CW.block ?_
        refine CW.seq ?_
        refine CW.region ?_
        refine RG.vl rfl rfl rfl (Ev.move rfl rfl) ?_
        refine RG.vl rfl rfl rfl (Ev.isF (Ev.gtr rfl rfl rfl) (by omega)) ?_
        refine RG.vl rfl rfl rfl (Ev.assign rfl rfl) ?_
        refine RG.done ?_
        refine QW.then_ ?_
        refine CW.condF rfl ?_
        refine CW.seq ?_
        refine CW.region ?_
        refine RG.vl rfl rfl rfl (Ev.move rfl rfl) ?_
        refine RG.vl rfl rfl rfl (Ev.isF (Ev.eqI rfl rfl rfl) (by omega)) ?_
        refine RG.vl rfl rfl rfl (Ev.assign rfl rfl) ?_
        refine RG.done ?_
        refine QW.then_ ?_
        refine CW.condF rfl ?_
        refine CW.skip ?_
        refine QW.blockN ?_
        refine QW.then_ ?_
        refine CW.seq ?_
        obtain ⟨t, ht, ht1, ht2, ht3⟩ := rem63 n
        refine CW.region ?_
        refine RG.vl rfl rfl rfl (Ev.move rfl rfl) ?_
        refine RG.vl rfl rfl rfl ((Ev.remT rfl rfl rfl (by omega)).conv (congrArg (Value.int .i64) ht)) ?_
        refine RG.vl rfl rfl rfl (Ev.assign rfl rfl) ?_
        refine RG.done ?_
        refine QW.then_ ?_
        refine CW.seq ?_
        refine CW.seq ?_
        refine CW.region ?_
        refine RG.vl rfl rfl rfl (Ev.move rfl rfl) ?_
        refine RG.vl rfl rfl rfl (Ev.lss rfl rfl rfl) ?_
        refine RG.done ?_
        refine QW.then_ ?_
        refine CW.condP rfl (fun hc118 => ?_) (fun hc118 => ?_)
        · refine CW.region ?_
          refine RG.vl rfl rfl rfl (Ev.move rfl rfl) ?_
          refine RG.vl rfl rfl rfl (Ev.addI rfl rfl rfl (by omega)) ?_
          refine RG.vl rfl rfl rfl (Ev.assign rfl rfl) ?_
          refine RG.done ?_
          refine QW.sub (S' := [(0, _), (6, _), (11, _), (12, _), (13, _), (14, _), (15, _), (16, _), (19, _)]) ⟨rfl, rfl, rfl, rfl, rfl, rfl, rfl, rfl, rfl, trivial⟩ ?_
          refine QW.then_ ?_
          refine CW.seq ?_
          obtain ⟨m, hm⟩ : ∃ m : Nat, t + 63 = (m : Int) := ⟨(t + 63).toNat, by omega⟩
          refine CW.region ?_
          refine RG.vl rfl rfl rfl (Ev.move rfl rfl) ?_
          refine RG.vl rfl rfl rfl (Ev.isT (Ev.eqI rfl rfl rfl) (rfl)) ?_
          refine RG.vl rfl rfl rfl (Ev.move rfl rfl) ?_
          refine RG.vl rfl rfl rfl (Ev.move rfl rfl) ?_
          refine RG.vl rfl rfl rfl (Ev.move rfl rfl) ?_
          refine RG.vl rfl rfl rfl (Ev.isT (Ev.eqI rfl rfl rfl) (rfl)) ?_
          refine RG.vl rfl rfl rfl (Ev.pickT rfl rfl rfl) ?_
          refine RG.vl rfl rfl rfl (Ev.move rfl rfl) ?_
          refine RG.vl rfl rfl rfl (Ev.move rfl rfl) ?_
          refine RG.vl rfl rfl rfl (Ev.move rfl rfl) ?_
          refine RG.vl rfl rfl rfl (Ev.isT (Ev.eqI rfl rfl rfl) (rfl)) ?_
          refine RG.vl rfl rfl rfl (Ev.pickT rfl rfl rfl) ?_
          refine RG.vl rfl rfl rfl (Ev.move rfl rfl) ?_
          refine RG.vl rfl rfl rfl (Ev.move rfl rfl) ?_
          refine RG.vl rfl rfl rfl (Ev.move rfl rfl) ?_
          refine RG.call rfl rfl rfl rfl rfl rfl rfl en_19 (rinv_ret a _ ha64) ?_
          rintro _ w119 ⟨rfl, hx119⟩
          replace hE109 := Ex.tr hE109 hx119
          replace hE111 := Ex.tr hE111 hx119
          replace hE113 := Ex.tr hE113 hx119
          replace hE115 := Ex.tr hE115 hx119
          replace hE117 := Ex.tr hE117 hx119
          have hE120 := hx119
          refine RG.vl rfl rfl rfl (Ev.isT (Ev.eqI rfl rfl rfl) (by rw [if_neg ha0, pwr_gi a ha64 ha0])) ?_
          refine RG.vl rfl rfl rfl (Ev.pickT rfl rfl rfl) ?_
          refine RG.vl rfl rfl rfl (Ev.move rfl rfl) ?_
          refine RG.vl rfl rfl rfl (Ev.move rfl rfl) ?_
          refine RG.vl rfl rfl rfl (Ev.move rfl rfl) ?_
          refine RG.call rfl rfl rfl rfl rfl rfl rfl en_20 (rlog_ret a _ ha64 ha0) ?_
          rintro _ w121 ⟨rfl, hx121⟩
          replace hE109 := Ex.tr hE109 hx121
          replace hE111 := Ex.tr hE111 hx121
          replace hE113 := Ex.tr hE113 hx121
          replace hE115 := Ex.tr hE115 hx121
          replace hE117 := Ex.tr hE117 hx121
          replace hE120 := Ex.tr hE120 hx121
          have hE122 := hx121
          refine RG.vl rfl rfl rfl (Ev.isT (Ev.eqI rfl rfl rfl) (rfl)) ?_
          refine RG.vl rfl rfl rfl (Ev.pickT rfl rfl rfl) ?_
          refine RG.vl rfl rfl rfl (Ev.move rfl rfl) ?_
          refine RG.vl rfl rfl rfl (Ev.move rfl rfl) ?_
          refine RG.vl rfl rfl rfl (Ev.move rfl rfl) ?_
          refine RG.vl rfl rfl rfl ((Ev.move rfl rfl).conv (congrArg (Value.int .i64) hm)) ?_
          refine RG.call rfl rfl rfl rfl rfl rfl rfl en_21 (rpow_ret a m _ ha64 (by omega)) ?_
          rintro _ w123 ⟨rfl, hx123⟩
          replace hE109 := Ex.tr hE109 hx123
          replace hE111 := Ex.tr hE111 hx123
          replace hE113 := Ex.tr hE113 hx123
          replace hE115 := Ex.tr hE115 hx123
          replace hE117 := Ex.tr hE117 hx123
          replace hE120 := Ex.tr hE120 hx123
          replace hE122 := Ex.tr hE122 hx123
          have hE124 := hx123
          refine RG.vl rfl rfl rfl (Ev.isT (Ev.eqI rfl rfl rfl) (by rw [pwr_gp a n m ha0 (by omega)])) ?_
          refine RG.vl rfl rfl rfl (Ev.pickT rfl rfl rfl) ?_
          refine RG.vl rfl rfl rfl (Ev.move rfl rfl) ?_
          refine RG.call rfl rfl rfl rfl rfl rfl rfl en_13 (awake_ret _) ?_
          rintro _ w125 ⟨rfl, hx125⟩
          replace hE109 := Ex.tr hE109 hx125
          replace hE111 := Ex.tr hE111 hx125
          replace hE113 := Ex.tr hE113 hx125
          replace hE115 := Ex.tr hE115 hx125
          replace hE117 := Ex.tr hE117 hx125
          replace hE120 := Ex.tr hE120 hx125
          replace hE122 := Ex.tr hE122 hx125
          replace hE124 := Ex.tr hE124 hx125
          have hE126 := hx125
          refine RG.vl rfl rfl rfl (Ev.pickT rfl rfl rfl) ?_
          refine RG.vl rfl rfl rfl (Ev.assign rfl rfl) ?_
          refine RG.done ?_
          refine QW.sub (S' := [(6, _)]) ⟨rfl, trivial⟩ ?_
          refine QW.then_ ?_
          refine CW.ret ?_
          refine QW.ret1 rfl rfl ?_
          have hB := (Ex.tr hB0 hE109)
          exact ⟨rfl, hB⟩
        · refine CW.skip ?_
          refine QW.then_ ?_
          refine CW.seq ?_
          obtain ⟨m, hm⟩ : ∃ m : Nat, t = (m : Int) := ⟨t.toNat, by omega⟩
          refine CW.region ?_
          refine RG.vl rfl rfl rfl (Ev.move rfl rfl) ?_
          refine RG.vl rfl rfl rfl (Ev.isT (Ev.eqI rfl rfl rfl) (rfl)) ?_
          refine RG.vl rfl rfl rfl (Ev.move rfl rfl) ?_
          refine RG.vl rfl rfl rfl (Ev.move rfl rfl) ?_
          refine RG.vl rfl rfl rfl (Ev.move rfl rfl) ?_
          refine RG.vl rfl rfl rfl (Ev.isT (Ev.eqI rfl rfl rfl) (rfl)) ?_
          refine RG.vl rfl rfl rfl (Ev.pickT rfl rfl rfl) ?_
          refine RG.vl rfl rfl rfl (Ev.move rfl rfl) ?_
          refine RG.vl rfl rfl rfl (Ev.move rfl rfl) ?_
          refine RG.vl rfl rfl rfl (Ev.move rfl rfl) ?_
          refine RG.vl rfl rfl rfl (Ev.isT (Ev.eqI rfl rfl rfl) (rfl)) ?_
          refine RG.vl rfl rfl rfl (Ev.pickT rfl rfl rfl) ?_
          refine RG.vl rfl rfl rfl (Ev.move rfl rfl) ?_
          refine RG.vl rfl rfl rfl (Ev.move rfl rfl) ?_
          refine RG.vl rfl rfl rfl (Ev.move rfl rfl) ?_
          refine RG.call rfl rfl rfl rfl rfl rfl rfl en_19 (rinv_ret a _ ha64) ?_
          rintro _ w127 ⟨rfl, hx127⟩
          replace hE109 := Ex.tr hE109 hx127
          replace hE111 := Ex.tr hE111 hx127
          replace hE113 := Ex.tr hE113 hx127
          replace hE115 := Ex.tr hE115 hx127
          replace hE117 := Ex.tr hE117 hx127
          have hE128 := hx127
          refine RG.vl rfl rfl rfl (Ev.isT (Ev.eqI rfl rfl rfl) (by rw [if_neg ha0, pwr_gi a ha64 ha0])) ?_
          refine RG.vl rfl rfl rfl (Ev.pickT rfl rfl rfl) ?_
          refine RG.vl rfl rfl rfl (Ev.move rfl rfl) ?_
          refine RG.vl rfl rfl rfl (Ev.move rfl rfl) ?_
          refine RG.vl rfl rfl rfl (Ev.move rfl rfl) ?_
          refine RG.call rfl rfl rfl rfl rfl rfl rfl en_20 (rlog_ret a _ ha64 ha0) ?_
          rintro _ w129 ⟨rfl, hx129⟩
          replace hE109 := Ex.tr hE109 hx129
          replace hE111 := Ex.tr hE111 hx129
          replace hE113 := Ex.tr hE113 hx129
          replace hE115 := Ex.tr hE115 hx129
          replace hE117 := Ex.tr hE117 hx129
          replace hE128 := Ex.tr hE128 hx129
          have hE130 := hx129
          refine RG.vl rfl rfl rfl (Ev.isT (Ev.eqI rfl rfl rfl) (rfl)) ?_
          refine RG.vl rfl rfl rfl (Ev.pickT rfl rfl rfl) ?_
          refine RG.vl rfl rfl rfl (Ev.move rfl rfl) ?_
          refine RG.vl rfl rfl rfl (Ev.move rfl rfl) ?_
          refine RG.vl rfl rfl rfl (Ev.move rfl rfl) ?_
          refine RG.vl rfl rfl rfl ((Ev.move rfl rfl).conv (congrArg (Value.int .i64) hm)) ?_
          refine RG.call rfl rfl rfl rfl rfl rfl rfl en_21 (rpow_ret a m _ ha64 (by omega)) ?_
          rintro _ w131 ⟨rfl, hx131⟩
          replace hE109 := Ex.tr hE109 hx131
          replace hE111 := Ex.tr hE111 hx131
          replace hE113 := Ex.tr hE113 hx131
          replace hE115 := Ex.tr hE115 hx131
          replace hE117 := Ex.tr hE117 hx131
          replace hE128 := Ex.tr hE128 hx131
          replace hE130 := Ex.tr hE130 hx131
          have hE132 := hx131
          refine RG.vl rfl rfl rfl (Ev.isT (Ev.eqI rfl rfl rfl) (by rw [pwr_gp a n m ha0 (by omega)])) ?_
          refine RG.vl rfl rfl rfl (Ev.pickT rfl rfl rfl) ?_
          refine RG.vl rfl rfl rfl (Ev.move rfl rfl) ?_
          refine RG.call rfl rfl rfl rfl rfl rfl rfl en_13 (awake_ret _) ?_
          rintro _ w133 ⟨rfl, hx133⟩
          replace hE109 := Ex.tr hE109 hx133
          replace hE111 := Ex.tr hE111 hx133
          replace hE113 := Ex.tr hE113 hx133
          replace hE115 := Ex.tr hE115 hx133
          replace hE117 := Ex.tr hE117 hx133
          replace hE128 := Ex.tr hE128 hx133
          replace hE130 := Ex.tr hE130 hx133
          replace hE132 := Ex.tr hE132 hx133
          have hE134 := hx133
          refine RG.vl rfl rfl rfl (Ev.pickT rfl rfl rfl) ?_
          refine RG.vl rfl rfl rfl (Ev.assign rfl rfl) ?_
          refine RG.done ?_
          refine QW.sub (S' := [(6, _)]) ⟨rfl, trivial⟩ ?_
          refine QW.then_ ?_
          refine CW.ret ?_
          refine QW.ret1 rfl rfl ?_
          have hB := (Ex.tr hB0 hE109)
          exact ⟨rfl, hB⟩
  · by_cases hb64 : b < 64
    · refine CW.region ?_
      refine RG.vl rfl rfl rfl (Ev.move rfl rfl) ?_
      refine RG.vl rfl rfl rfl (Ev.move rfl rfl) ?_
      refine RG.call rfl rfl rfl rfl rfl rfl rfl en_14 (Add_bad a b _ (by omega) (by omega) (by omega)) ?_
      rintro _ w135 ⟨rfl, hx135⟩
      have hE136 := hx135
      refine RG.vl rfl rfl rfl (Ev.move rfl rfl) ?_
      refine RG.vl rfl rfl rfl (Ev.extract rfl rfl rfl) ?_
      refine RG.vl rfl rfl rfl (Ev.extract rfl rfl rfl) ?_
      refine RG.vl rfl rfl rfl (Ev.assign rfl rfl) ?_
      refine RG.vl rfl rfl rfl (Ev.assign rfl rfl) ?_
      refine RG.done ?_
      refine QW.then_ ?_
      refine CW.seq ?_
      refine CW.region ?_
      refine RG.vl rfl rfl rfl (Ev.move rfl rfl) ?_
      refine RG.vl rfl rfl rfl (Ev.move rfl rfl) ?_
      refine RG.call rfl rfl rfl rfl rfl rfl rfl en_15 (Mul_bad a b _ (by omega)) ?_
      rintro _ w137 ⟨rfl, hx137⟩
      replace hE136 := Ex.tr hE136 hx137
      have hE138 := hx137
      refine RG.vl rfl rfl rfl (Ev.move rfl rfl) ?_
      refine RG.vl rfl rfl rfl (Ev.extract rfl rfl rfl) ?_
      refine RG.vl rfl rfl rfl (Ev.extract rfl rfl rfl) ?_
      refine RG.vl rfl rfl rfl (Ev.assign rfl rfl) ?_
      refine RG.vl rfl rfl rfl (Ev.assign rfl rfl) ?_
      refine RG.done ?_
      refine QW.sub (S' := [(0, _), (1, _), (2, _), (6, _), (7, _), (8, _), (9, _), (10, _)]) ⟨rfl, rfl, rfl, rfl, rfl, rfl, rfl, rfl, trivial⟩ ?_
      refine QW.then_ ?_
      refine CW.seq ?_
      refine CW.region ?_
      refine RG.vl rfl rfl rfl (Ev.move rfl rfl) ?_
      refine RG.call rfl rfl rfl rfl rfl rfl rfl en_16 (Inv_bad a _ (by omega)) ?_
      rintro _ w139 ⟨rfl, hx139⟩
      replace hE136 := Ex.tr hE136 hx139
      replace hE138 := Ex.tr hE138 hx139
      have hE140 := hx139
      refine RG.vl rfl rfl rfl (Ev.move rfl rfl) ?_
      refine RG.vl rfl rfl rfl (Ev.extract rfl rfl rfl) ?_
      refine RG.vl rfl rfl rfl (Ev.extract rfl rfl rfl) ?_
      refine RG.vl rfl rfl rfl (Ev.assign rfl rfl) ?_
      refine RG.vl rfl rfl rfl (Ev.assign rfl rfl) ?_
      refine RG.done ?_
      refine QW.then_ ?_
      refine CW.seq ?_
      refine CW.region ?_
      refine RG.vl rfl rfl rfl (Ev.move rfl rfl) ?_
      refine RG.vl rfl rfl rfl (Ev.move rfl rfl) ?_
      refine RG.call rfl rfl rfl rfl rfl rfl rfl en_11 (Pow_bad a n _ (by omega)) ?_
      rintro _ w141 ⟨rfl, hx141⟩
      replace hE136 := Ex.tr hE136 hx141
      replace hE138 := Ex.tr hE138 hx141
      replace hE140 := Ex.tr hE140 hx141
      have hE142 := hx141
      refine RG.vl rfl rfl rfl (Ev.move rfl rfl) ?_
      refine RG.vl rfl rfl rfl (Ev.extract rfl rfl rfl) ?_
      refine RG.vl rfl rfl rfl (Ev.extract rfl rfl rfl) ?_
      refine RG.vl rfl rfl rfl (Ev.assign rfl rfl) ?_
      refine RG.vl rfl rfl rfl (Ev.assign rfl rfl) ?_
      refine RG.done ?_
      refine QW.sub (S' := [(0, _), (1, _), (2, _), (6, _), (7, _), (8, _), (9, _), (10, _), (11, _), (12, _), (13, _), (14, _)]) ⟨rfl, rfl, rfl, rfl, rfl, rfl, rfl, rfl, rfl, rfl, rfl, rfl, trivial⟩ ?_
      refine QW.then_ ?_
      refine CW.seq ?_
      refine CW.region ?_
      refine RG.vl rfl rfl rfl (Ev.move rfl rfl) ?_
      refine RG.call rfl rfl rfl rfl rfl rfl rfl en_17 (Log_bad a _ (by omega)) ?_
      rintro _ w143 ⟨rfl, hx143⟩
      replace hE136 := Ex.tr hE136 hx143
      replace hE138 := Ex.tr hE138 hx143
      replace hE140 := Ex.tr hE140 hx143
      replace hE142 := Ex.tr hE142 hx143
      have hE144 := hx143
      refine RG.vl rfl rfl rfl (Ev.move rfl rfl) ?_
      refine RG.vl rfl rfl rfl (Ev.extract rfl rfl rfl) ?_
      refine RG.vl rfl rfl rfl (Ev.extract rfl rfl rfl) ?_
      refine RG.vl rfl rfl rfl (Ev.assign rfl rfl) ?_
      refine RG.vl rfl rfl rfl (Ev.assign rfl rfl) ?_
      refine RG.done ?_
      refine QW.then_ ?_
      refine CW.seq ?_
      refine CW.seq ?_
      refine CW.region ?_
      refine RG.vl rfl rfl rfl (Ev.move rfl rfl) ?_
      refine RG.vl rfl rfl rfl (Ev.isT (Ev.gtr rfl rfl rfl) (by omega)) ?_
      refine RG.vl rfl rfl rfl (Ev.move rfl rfl) ?_
      refine RG.pass rfl rfl rfl ?_
      refine RG.pass rfl rfl rfl ?_
      refine RG.vl rfl rfl rfl (Ev.pickT rfl rfl rfl) ?_
      refine RG.done ?_
      refine QW.then_ ?_
      refine CW.condT rfl ?_
      refine CW.seq ?_
      refine CW.region ?_
      refine RG.vl rfl rfl rfl (Ev.move rfl rfl) ?_
      refine RG.vl rfl rfl rfl (Ev.isF (Ev.neI rfl rfl rfl) (by decide)) ?_
      refine RG.vl rfl rfl rfl (Ev.move rfl rfl) ?_
      refine RG.vl rfl rfl rfl (Ev.move rfl rfl) ?_
      refine RG.vl rfl rfl rfl (Ev.move rfl rfl) ?_
      refine RG.vl rfl rfl rfl (Ev.isF (Ev.neI rfl rfl rfl) (by decide)) ?_
      refine RG.vl rfl rfl rfl (Ev.pickF rfl rfl rfl) ?_
      refine RG.vl rfl rfl rfl (Ev.move rfl rfl) ?_
      refine RG.vl rfl rfl rfl (Ev.move rfl rfl) ?_
      refine RG.vl rfl rfl rfl (Ev.isF (Ev.neI rfl rfl rfl) (by decide)) ?_
      refine RG.vl rfl rfl rfl (Ev.pickF rfl rfl rfl) ?_
      refine RG.vl rfl rfl rfl (Ev.move rfl rfl) ?_
      refine RG.vl rfl rfl rfl (Ev.move rfl rfl) ?_
      refine RG.vl rfl rfl rfl (Ev.isF (Ev.neI rfl rfl rfl) (by decide)) ?_
      refine RG.vl rfl rfl rfl (Ev.pickF rfl rfl rfl) ?_
      refine RG.done ?_
      refine QW.sub (S' := [(0, _), (2, _), (6, _), (11, _), (12, _), (13, _), (14, _), (15, _), (16, _), (68, _)]) ⟨rfl, rfl, rfl, rfl, rfl, rfl, rfl, rfl, rfl, rfl, trivial⟩ ?_
      refine QW.then_ ?_
      refine CW.condF rfl ?_
      refine CW.skip ?_
      refine QW.then_ ?_
      refine CW.seq ?_
      refine CW.block ?_
      refine CW.seq ?_
      refine CW.region ?_
      refine RG.vl rfl rfl rfl (Ev.move rfl rfl) ?_
      refine RG.vl rfl rfl rfl (Ev.isT (Ev.gtr rfl rfl rfl) (by omega)) ?_
      refine RG.vl rfl rfl rfl (Ev.assign rfl rfl) ?_
      refine RG.done ?_
      refine QW.then_ ?_
      refine CW.condT rfl ?_
      refine CW.seq ?_
      refine CW.region ?_
      refine RG.vl rfl rfl rfl (Ev.move rfl rfl) ?_
      refine RG.vl rfl rfl rfl (Ev.isT (Ev.eqI rfl rfl rfl) (rfl)) ?_
      refine RG.vl rfl rfl rfl (Ev.move rfl rfl) ?_
      refine RG.vl rfl rfl rfl (Ev.move rfl rfl) ?_
      refine RG.vl rfl rfl rfl (Ev.move rfl rfl) ?_
      refine RG.vl rfl rfl rfl (Ev.isT (Ev.eqI rfl rfl rfl) (rfl)) ?_
      refine RG.vl rfl rfl rfl (Ev.pickT rfl rfl rfl) ?_
      refine RG.vl rfl rfl rfl (Ev.move rfl rfl) ?_
      refine RG.vl rfl rfl rfl (Ev.move rfl rfl) ?_
      refine RG.vl rfl rfl rfl (Ev.move rfl rfl) ?_
      refine RG.vl rfl rfl rfl (Ev.isT (Ev.eqI rfl rfl rfl) (rfl)) ?_
      refine RG.vl rfl rfl rfl (Ev.pickT rfl rfl rfl) ?_
      refine RG.vl rfl rfl rfl (Ev.move rfl rfl) ?_
      refine RG.vl rfl rfl rfl (Ev.move rfl rfl) ?_
      refine RG.vl rfl rfl rfl (Ev.isT (Ev.eqI rfl rfl rfl) (rfl)) ?_
      refine RG.vl rfl rfl rfl (Ev.pickT rfl rfl rfl) ?_
      refine RG.vl rfl rfl rfl (Ev.move rfl rfl) ?_
      refine RG.vl rfl rfl rfl (Ev.move rfl rfl) ?_
      refine RG.vl rfl rfl rfl (Ev.isT (Ev.eqI rfl rfl rfl) (rfl)) ?_
      refine RG.vl rfl rfl rfl (Ev.pickT rfl rfl rfl) ?_
      refine RG.vl rfl rfl rfl (Ev.move rfl rfl) ?_
      refine RG.vl rfl rfl rfl (Ev.move rfl rfl) ?_
      refine RG.vl rfl rfl rfl (Ev.isT (Ev.eqI rfl rfl rfl) (rfl)) ?_
      refine RG.vl rfl rfl rfl (Ev.pickT rfl rfl rfl) ?_
      refine RG.vl rfl rfl rfl (Ev.move rfl rfl) ?_
      refine RG.call rfl rfl rfl rfl rfl rfl rfl en_13 (awake_ret _) ?_
      rintro _ w145 ⟨rfl, hx145⟩
      replace hE136 := Ex.tr hE136 hx145
      replace hE138 := Ex.tr hE138 hx145
      replace hE140 := Ex.tr hE140 hx145
      replace hE142 := Ex.tr hE142 hx145
      replace hE144 := Ex.tr hE144 hx145
      have hE146 := hx145
      refine RG.vl rfl rfl rfl (Ev.pickT rfl rfl rfl) ?_
      refine RG.vl rfl rfl rfl (Ev.assign rfl rfl) ?_
      refine RG.done ?_
      refine QW.sub (S' := [(0, _), (2, _), (6, _), (11, _), (12, _), (13, _), (14, _), (15, _), (16, _)]) ⟨rfl, rfl, rfl, rfl, rfl, rfl, rfl, rfl, rfl, trivial⟩ ?_
      refine QW.then_ ?_
      refine CW.ret ?_
      refine QW.blockR ?_
      refine QW.thenRet ?_
      refine QW.ret1 rfl rfl ?_
      have hB := (Ex.tr hB0 hE136)
      exact ⟨rfl, hB⟩
    · refine CW.region ?_
      refine RG.vl rfl rfl rfl (Ev.move rfl rfl) ?_
      refine RG.vl rfl rfl rfl (Ev.move rfl rfl) ?_
      refine RG.call rfl rfl rfl rfl rfl rfl rfl en_14 (Add_bad a b _ (by omega) (by omega) (by omega)) ?_
      rintro _ w147 ⟨rfl, hx147⟩
      have hE148 := hx147
      refine RG.vl rfl rfl rfl (Ev.move rfl rfl) ?_
      refine RG.vl rfl rfl rfl (Ev.extract rfl rfl rfl) ?_
      refine RG.vl rfl rfl rfl (Ev.extract rfl rfl rfl) ?_
      refine RG.vl rfl rfl rfl (Ev.assign rfl rfl) ?_
      refine RG.vl rfl rfl rfl (Ev.assign rfl rfl) ?_
      refine RG.done ?_
      refine QW.then_ ?_
      refine CW.seq ?_
      refine CW.region ?_
      refine RG.vl rfl rfl rfl (Ev.move rfl rfl) ?_
      refine RG.vl rfl rfl rfl (Ev.move rfl rfl) ?_
      refine RG.call rfl rfl rfl rfl rfl rfl rfl en_15 (Mul_bad a b _ (by omega)) ?_
      rintro _ w149 ⟨rfl, hx149⟩
      replace hE148 := Ex.tr hE148 hx149
      have hE150 := hx149
      refine RG.vl rfl rfl rfl (Ev.move rfl rfl) ?_
      refine RG.vl rfl rfl rfl (Ev.extract rfl rfl rfl) ?_
      refine RG.vl rfl rfl rfl (Ev.extract rfl rfl rfl) ?_
      refine RG.vl rfl rfl rfl (Ev.assign rfl rfl) ?_
      refine RG.vl rfl rfl rfl (Ev.assign rfl rfl) ?_
      refine RG.done ?_
      refine QW.sub (S' := [(0, _), (1, _), (2, _), (6, _), (7, _), (8, _), (9, _), (10, _)]) ⟨rfl, rfl, rfl, rfl, rfl, rfl, rfl, rfl, trivial⟩ ?_
      refine QW.then_ ?_
      refine CW.seq ?_
      refine CW.region ?_
      refine RG.vl rfl rfl rfl (Ev.move rfl rfl) ?_
      refine RG.call rfl rfl rfl rfl rfl rfl rfl en_16 (Inv_bad a _ (by omega)) ?_
      rintro _ w151 ⟨rfl, hx151⟩
      replace hE148 := Ex.tr hE148 hx151
      replace hE150 := Ex.tr hE150 hx151
      have hE152 := hx151
      refine RG.vl rfl rfl rfl (Ev.move rfl rfl) ?_
      refine RG.vl rfl rfl rfl (Ev.extract rfl rfl rfl) ?_
      refine RG.vl rfl rfl rfl (Ev.extract rfl rfl rfl) ?_
      refine RG.vl rfl rfl rfl (Ev.assign rfl rfl) ?_
      refine RG.vl rfl rfl rfl (Ev.assign rfl rfl) ?_
      refine RG.done ?_
      refine QW.then_ ?_
      refine CW.seq ?_
      refine CW.region ?_
      refine RG.vl rfl rfl rfl (Ev.move rfl rfl) ?_
      refine RG.vl rfl rfl rfl (Ev.move rfl rfl) ?_
      refine RG.call rfl rfl rfl rfl rfl rfl rfl en_11 (Pow_bad a n _ (by omega)) ?_
      rintro _ w153 ⟨rfl, hx153⟩
      replace hE148 := Ex.tr hE148 hx153
      replace hE150 := Ex.tr hE150 hx153
      replace hE152 := Ex.tr hE152 hx153
      have hE154 := hx153
      refine RG.vl rfl rfl rfl (Ev.move rfl rfl) ?_
      refine RG.vl rfl rfl rfl (Ev.extract rfl rfl rfl) ?_
      refine RG.vl rfl rfl rfl (Ev.extract rfl rfl rfl) ?_
      refine RG.vl rfl rfl rfl (Ev.assign rfl rfl) ?_
      refine RG.vl rfl rfl rfl (Ev.assign rfl rfl) ?_
      refine RG.done ?_
      refine QW.sub (S' := [(0, _), (1, _), (2, _), (6, _), (7, _), (8, _), (9, _), (10, _), (11, _), (12, _), (13, _), (14, _)]) ⟨rfl, rfl, rfl, rfl, rfl, rfl, rfl, rfl, rfl, rfl, rfl, rfl, trivial⟩ ?_
      refine QW.then_ ?_
      refine CW.seq ?_
      refine CW.region ?_
      refine RG.vl rfl rfl rfl (Ev.move rfl rfl) ?_
      refine RG.call rfl rfl rfl rfl rfl rfl rfl en_17 (Log_bad a _ (by omega)) ?_
      rintro _ w155 ⟨rfl, hx155⟩
      replace hE148 := Ex.tr hE148 hx155
      replace hE150 := Ex.tr hE150 hx155
      replace hE152 := Ex.tr hE152 hx155
      replace hE154 := Ex.tr hE154 hx155
      have hE156 := hx155
      refine RG.vl rfl rfl rfl (Ev.move rfl rfl) ?_
      refine RG.vl rfl rfl rfl (Ev.extract rfl rfl rfl) ?_
      refine RG.vl rfl rfl rfl (Ev.extract rfl rfl rfl) ?_
      refine RG.vl rfl rfl rfl (Ev.assign rfl rfl) ?_
      refine RG.vl rfl rfl rfl (Ev.assign rfl rfl) ?_
      refine RG.done ?_
      refine QW.then_ ?_
      refine CW.seq ?_
      refine CW.seq ?_
      refine CW.region ?_
      refine RG.vl rfl rfl rfl (Ev.move rfl rfl) ?_
      refine RG.vl rfl rfl rfl (Ev.isT (Ev.gtr rfl rfl rfl) (by omega)) ?_
      refine RG.vl rfl rfl rfl (Ev.move rfl rfl) ?_
      refine RG.pass rfl rfl rfl ?_
      refine RG.pass rfl rfl rfl ?_
      refine RG.vl rfl rfl rfl (Ev.pickT rfl rfl rfl) ?_
      refine RG.done ?_
      refine QW.then_ ?_
      refine CW.condT rfl ?_
      refine CW.seq ?_
      refine CW.region ?_
      refine RG.vl rfl rfl rfl (Ev.move rfl rfl) ?_
      refine RG.vl rfl rfl rfl (Ev.isF (Ev.neI rfl rfl rfl) (by decide)) ?_
      refine RG.vl rfl rfl rfl (Ev.move rfl rfl) ?_
      refine RG.vl rfl rfl rfl (Ev.move rfl rfl) ?_
      refine RG.vl rfl rfl rfl (Ev.move rfl rfl) ?_
      refine RG.vl rfl rfl rfl (Ev.isF (Ev.neI rfl rfl rfl) (by decide)) ?_
      refine RG.vl rfl rfl rfl (Ev.pickF rfl rfl rfl) ?_
      refine RG.vl rfl rfl rfl (Ev.move rfl rfl) ?_
      refine RG.vl rfl rfl rfl (Ev.move rfl rfl) ?_
      refine RG.vl rfl rfl rfl (Ev.isF (Ev.neI rfl rfl rfl) (by decide)) ?_
      refine RG.vl rfl rfl rfl (Ev.pickF rfl rfl rfl) ?_
      refine RG.vl rfl rfl rfl (Ev.move rfl rfl) ?_
      refine RG.vl rfl rfl rfl (Ev.move rfl rfl) ?_
      refine RG.vl rfl rfl rfl (Ev.isF (Ev.neI rfl rfl rfl) (by decide)) ?_
      refine RG.vl rfl rfl rfl (Ev.pickF rfl rfl rfl) ?_
      refine RG.done ?_
      refine QW.sub (S' := [(0, _), (2, _), (6, _), (11, _), (12, _), (13, _), (14, _), (15, _), (16, _), (68, _)]) ⟨rfl, rfl, rfl, rfl, rfl, rfl, rfl, rfl, rfl, rfl, trivial⟩ ?_
      refine QW.then_ ?_
      refine CW.condF rfl ?_
      refine CW.skip ?_
      refine QW.then_ ?_
      refine CW.seq ?_
      refine CW.block ?_
      refine CW.seq ?_
      refine CW.region ?_
      refine RG.vl rfl rfl rfl (Ev.move rfl rfl) ?_
      refine RG.vl rfl rfl rfl (Ev.isT (Ev.gtr rfl rfl rfl) (by omega)) ?_
      refine RG.vl rfl rfl rfl (Ev.assign rfl rfl) ?_
      refine RG.done ?_
      refine QW.then_ ?_
      refine CW.condT rfl ?_
      refine CW.seq ?_
      refine CW.region ?_
      refine RG.vl rfl rfl rfl (Ev.move rfl rfl) ?_
      refine RG.vl rfl rfl rfl (Ev.isT (Ev.eqI rfl rfl rfl) (rfl)) ?_
      refine RG.vl rfl rfl rfl (Ev.move rfl rfl) ?_
      refine RG.vl rfl rfl rfl (Ev.move rfl rfl) ?_
      refine RG.vl rfl rfl rfl (Ev.move rfl rfl) ?_
      refine RG.vl rfl rfl rfl (Ev.isT (Ev.eqI rfl rfl rfl) (rfl)) ?_
      refine RG.vl rfl rfl rfl (Ev.pickT rfl rfl rfl) ?_
      refine RG.vl rfl rfl rfl (Ev.move rfl rfl) ?_
      refine RG.vl rfl rfl rfl (Ev.move rfl rfl) ?_
      refine RG.vl rfl rfl rfl (Ev.move rfl rfl) ?_
      refine RG.vl rfl rfl rfl (Ev.isT (Ev.eqI rfl rfl rfl) (rfl)) ?_
      refine RG.vl rfl rfl rfl (Ev.pickT rfl rfl rfl) ?_
      refine RG.vl rfl rfl rfl (Ev.move rfl rfl) ?_
      refine RG.vl rfl rfl rfl (Ev.move rfl rfl) ?_
      refine RG.vl rfl rfl rfl (Ev.isT (Ev.eqI rfl rfl rfl) (rfl)) ?_
      refine RG.vl rfl rfl rfl (Ev.pickT rfl rfl rfl) ?_
      refine RG.vl rfl rfl rfl (Ev.move rfl rfl) ?_
      refine RG.vl rfl rfl rfl (Ev.move rfl rfl) ?_
      refine RG.vl rfl rfl rfl (Ev.isT (Ev.eqI rfl rfl rfl) (rfl)) ?_
      refine RG.vl rfl rfl rfl (Ev.pickT rfl rfl rfl) ?_
      refine RG.vl rfl rfl rfl (Ev.move rfl rfl) ?_
      refine RG.vl rfl rfl rfl (Ev.move rfl rfl) ?_
      refine RG.vl rfl rfl rfl (Ev.isT (Ev.eqI rfl rfl rfl) (rfl)) ?_
      refine RG.vl rfl rfl rfl (Ev.pickT rfl rfl rfl) ?_
      refine RG.vl rfl rfl rfl (Ev.move rfl rfl) ?_
      refine RG.call rfl rfl rfl rfl rfl rfl rfl en_13 (awake_ret _) ?_
      rintro _ w157 ⟨rfl, hx157⟩
      replace hE148 := Ex.tr hE148 hx157
      replace hE150 := Ex.tr hE150 hx157
      replace hE152 := Ex.tr hE152 hx157
      replace hE154 := Ex.tr hE154 hx157
      replace hE156 := Ex.tr hE156 hx157
      have hE158 := hx157
      refine RG.vl rfl rfl rfl (Ev.pickT rfl rfl rfl) ?_
      refine RG.vl rfl rfl rfl (Ev.assign rfl rfl) ?_
      refine RG.done ?_
      refine QW.sub (S' := [(0, _), (2, _), (6, _), (11, _), (12, _), (13, _), (14, _), (15, _), (16, _)]) ⟨rfl, rfl, rfl, rfl, rfl, rfl, rfl, rfl, rfl, trivial⟩ ?_
      refine QW.then_ ?_
      refine CW.ret ?_
      refine QW.blockR ?_
      refine QW.thenRet ?_
      refine QW.ret1 rfl rfl ?_
      have hB := (Ex.tr hB0 hE148)
      exact ⟨rfl, hB⟩

end Go.Proofs.Ytjaledljhiihmaa
