/- Walks (FC). Written by program. -/
import Derived.Test.YtjhgihgggofocaaT
import Derived.Test.YtjhgihgggofocaaFV
namespace Go.Proofs.Ytjhgihgggofocaa
open Go.RowKit
set_option maxRecDepth 100000 in
set_option maxHeartbeats 1000000 in
theorem Mul_ret (a b : Nat) (w : World)  :
    Ret Try.prog 31 [.int .u8 (a : Int), .int .u8 (b : Int)] w (fun v w' => v = .tuple #[.int .u8 ((if errL [[a, b]] = 0 then gm a b else 0 : Nat) : Int), .int .i64 (errL [[a, b]])] ∧ Ex w w') := by
  have hB0 : Ex w w := Ex.rfl_ _
  refine Ret.of Try.func31 rfl Try.ntmps31 rfl ?_
  refine CW.seq ?_
  refine CW.region ?_
  refine RG.vl rfl rfl rfl (Ev.assign rfl rfl) ?_
  refine RG.vl rfl rfl rfl (Ev.assign rfl rfl) ?_
  refine RG.done ?_
  refine QW.then_ ?_
  refine CW.seq ?_
  refine CW.seq ?_
  refine CW.region ?_
  refine RG.vl rfl rfl rfl (Ev.move rfl rfl) ?_
  refine RG.vl rfl rfl rfl (Ev.move rfl rfl) ?_
  refine RG.litO (os := [.tmp 7, .tmp 8]) (enc := encN) ([_, _]) rfl rfl rfl rfl rfl rfl rfl Try.underlying22 inf_5 rfl rfl rfl rfl rfl encN_len rfl rfl (fun v1 wk2 hxwk2 hown3 hnew4 => ?_)
  have hE5 := hxwk2
  obtain ⟨Av1, Cv1, rfl⟩ := hown3.shape
  refine RG.litO (os := [.tmp 9]) (enc := encV) ([_]) rfl rfl rfl rfl rfl rfl rfl Try.underlying95 inf_22 rfl rfl rfl rfl rfl encV_len rfl rfl (fun v6 wk7 hxwk7 hown8 hnew9 => ?_)
  have hsep10 : Sep v6 _ := Sep.of_new hown3 hnew9
  replace hE5 := Ex.tr hE5 hxwk7
  have hE11 := hxwk7
  refine RG.call rfl rfl rfl rfl rfl rfl rfl en_49 (check1_ret _ _ _  _ ((hown8.rdl encV_len)) (((Own.ext hown3 hE11).rdl encN_len))) ?_
  rintro _ w12 ⟨rfl, hx12⟩
  replace hE5 := Ex.tr hE5 hx12
  replace hE11 := Ex.tr hE11 hx12
  have hE13 := hx12
  refine RG.vl rfl rfl rfl (Ev.assign rfl rfl) ?_
  refine RG.done ?_
  refine QW.then_ ?_
  refine CW.seq ?_
  refine CW.region ?_
  refine RG.vl rfl rfl rfl (Ev.move rfl rfl) ?_
  refine RG.vl rfl rfl rfl (Ev.neI rfl rfl rfl) ?_
  refine RG.done ?_
  refine QW.then_ ?_
  refine CW.condP rfl (fun hc14 => ?_) (fun hc14 => ?_)
  · refine CW.seq ?_
    refine CW.region ?_
    refine RG.vl rfl rfl rfl (Ev.move rfl rfl) ?_
    refine RG.vl rfl rfl rfl (Ev.assign rfl rfl) ?_
    refine RG.vl rfl rfl rfl (Ev.assign rfl rfl) ?_
    refine RG.done ?_
    refine QW.then_ ?_
    refine CW.ret ?_
    refine QW.thenRet ?_
    refine QW.ret2 rfl rfl rfl ?_
    have hB := (Ex.tr hB0 hE5)
    exact ⟨by rw [if_neg (by assumption)]; rfl, hB⟩
  · refine CW.skip ?_
    refine QW.then_ ?_
    refine CW.seq ?_
    have he0 : errL [[a, b]] = 0 := by omega
    have hel := (errL1 he0).2
    have ha64 : a < 64 := hel.head
    have hb64 : b < 64 := hel.tail.head
    refine CW.region ?_
    refine RG.call rfl rfl rfl rfl rfl rfl rfl en_50 (newTables_ret _) ?_
    rintro _ w15 ⟨gt15, rfl, hge15, ht15, hx15⟩
    replace hE5 := Ex.tr hE5 hx15
    replace hE11 := Ex.tr hE11 hx15
    replace hE13 := Ex.tr hE13 hx15
    have hE16 := hx15
    refine RG.vl rfl rfl rfl (Ev.move rfl rfl) ?_
    refine RG.vl rfl rfl rfl (Ev.move rfl rfl) ?_
    refine RG.call rfl rfl rfl rfl rfl rfl rfl en_51 (mul_ret _ _ _ _ ht15 (by assumption) (by assumption)) ?_
    rintro _ w17 ⟨rfl, hx17⟩
    replace hE5 := Ex.tr hE5 hx17
    replace hE11 := Ex.tr hE11 hx17
    replace hE13 := Ex.tr hE13 hx17
    replace hE16 := Ex.tr hE16 hx17
    have hE18 := hx17
    refine RG.vl rfl rfl rfl (Ev.assign rfl rfl) ?_
    refine RG.vl rfl rfl rfl (Ev.assign rfl rfl) ?_
    refine RG.done ?_
    refine QW.sub (S' := [(4, _), (5, _)]) ⟨rfl, rfl, trivial⟩ ?_
    refine QW.then_ ?_
    refine CW.ret ?_
    refine QW.ret2 rfl rfl rfl ?_
    have hB := (Ex.tr hB0 hE5)
    exact ⟨by rw [if_pos he0, he0], hB⟩

set_option maxRecDepth 100000 in
set_option maxHeartbeats 1000000 in
theorem pow_ret (a : Nat) (n : Int) (w : World)  :
    Ret Try.prog 55 [.int .u8 (a : Int), .int .i64 n] w (fun v w' => v = .tuple #[.int .u8 ((if errL [[a]] = 0 then pwr a n else 0 : Nat) : Int), .int .i64 (pwE a n)] ∧ Ex w w') := by
  have hB0 : Ex w w := Ex.rfl_ _
  refine Ret.of Try.func55 rfl Try.ntmps55 rfl ?_
  refine CW.seq ?_
  refine CW.region ?_
  refine RG.vl rfl rfl rfl (Ev.assign rfl rfl) ?_
  refine RG.vl rfl rfl rfl (Ev.assign rfl rfl) ?_
  refine RG.done ?_
  refine QW.then_ ?_
  refine CW.seq ?_
  refine CW.seq ?_
  refine CW.region ?_
  refine RG.vl rfl rfl rfl (Ev.move rfl rfl) ?_
  refine RG.litO (os := [.tmp 9]) (enc := encN) ([_]) rfl rfl rfl rfl rfl rfl rfl Try.underlying22 inf_5 rfl rfl rfl rfl rfl encN_len rfl rfl (fun v1 wk2 hxwk2 hown3 hnew4 => ?_)
  have hE5 := hxwk2
  obtain ⟨Av1, Cv1, rfl⟩ := hown3.shape
  refine RG.litO (os := [.tmp 10]) (enc := encV) ([_]) rfl rfl rfl rfl rfl rfl rfl Try.underlying95 inf_22 rfl rfl rfl rfl rfl encV_len rfl rfl (fun v6 wk7 hxwk7 hown8 hnew9 => ?_)
  have hsep10 : Sep v6 _ := Sep.of_new hown3 hnew9
  replace hE5 := Ex.tr hE5 hxwk7
  have hE11 := hxwk7
  refine RG.call rfl rfl rfl rfl rfl rfl rfl en_49 (check1_ret _ _ _  _ ((hown8.rdl encV_len)) (((Own.ext hown3 hE11).rdl encN_len))) ?_
  rintro _ w12 ⟨rfl, hx12⟩
  replace hE5 := Ex.tr hE5 hx12
  replace hE11 := Ex.tr hE11 hx12
  have hE13 := hx12
  refine RG.vl rfl rfl rfl (Ev.assign rfl rfl) ?_
  refine RG.done ?_
  refine QW.then_ ?_
  refine CW.seq ?_
  refine CW.region ?_
  refine RG.vl rfl rfl rfl (Ev.move rfl rfl) ?_
  refine RG.vl rfl rfl rfl (Ev.neI rfl rfl rfl) ?_
  refine RG.done ?_
  refine QW.then_ ?_
  refine CW.condP rfl (fun hc14 => ?_) (fun hc14 => ?_)
  · refine CW.seq ?_
    refine CW.region ?_
    refine RG.vl rfl rfl rfl (Ev.move rfl rfl) ?_
    refine RG.vl rfl rfl rfl (Ev.assign rfl rfl) ?_
    refine RG.vl rfl rfl rfl (Ev.assign rfl rfl) ?_
    refine RG.done ?_
    refine QW.then_ ?_
    refine CW.ret ?_
    refine QW.thenRet ?_
    refine QW.ret2 rfl rfl rfl ?_
    have hB := (Ex.tr hB0 hE5)
    refine ⟨?_, hB⟩; unfold pwE; rw [if_neg (by assumption), if_neg (by assumption)]; rfl
  · refine CW.skip ?_
    refine QW.then_ ?_
    refine CW.seq ?_
    refine CW.block ?_
    refine CW.seq ?_
    have he0 : errL [[a]] = 0 := by omega
    have hel := (errL1 he0).2
    have ha64 : a < 64 := hel.head
    refine CW.region ?_
    refine RG.vl rfl rfl rfl (Ev.move rfl rfl) ?_
    refine RG.vl rfl rfl rfl (Ev.eqI rfl rfl rfl) ?_
    refine RG.vl rfl rfl rfl (Ev.assign rfl rfl) ?_
    refine RG.done ?_
    refine QW.then_ ?_
    refine CW.condP rfl (fun hc15 => ?_) (fun hc15 => ?_)
    · refine CW.seq ?_
      refine CW.region ?_
      refine RG.vl rfl rfl rfl (Ev.assign rfl rfl) ?_
      refine RG.vl rfl rfl rfl (Ev.assign rfl rfl) ?_
      refine RG.done ?_
      refine QW.sub (S' := [(0, _), (1, _), (4, _), (5, _)]) ⟨rfl, rfl, rfl, rfl, trivial⟩ ?_
      refine QW.then_ ?_
      refine CW.ret ?_
      refine QW.blockR ?_
      refine QW.thenRet ?_
      refine QW.ret2 rfl rfl rfl ?_
      have hB := (Ex.tr hB0 hE5)
      refine ⟨?_, hB⟩; unfold pwE pwr; rw [if_pos he0, if_pos he0, if_pos (by omega), if_neg (by omega)]; rfl
    · refine CW.seq ?_
      refine CW.region ?_
      refine RG.vl rfl rfl rfl (Ev.move rfl rfl) ?_
      refine RG.vl rfl rfl rfl (Ev.eqI rfl rfl rfl) ?_
      refine RG.vl rfl rfl rfl (Ev.move rfl rfl) ?_
      refine RG.split (d := 22) rfl (fun hg16 => ?_) (fun hg16 => ?_)
      · refine RG.vl rfl rfl rfl (Ev.move rfl rfl) ?_
        refine RG.vl rfl rfl rfl (Ev.lss rfl rfl rfl) ?_
        refine RG.vl rfl rfl rfl (Ev.pickT rfl rfl rfl) ?_
        refine RG.vl rfl rfl rfl (Ev.assign rfl rfl) ?_
        refine RG.done ?_
        refine QW.sub (S' := [(0, _), (1, _), (4, _), (5, _), (19, _)]) ⟨rfl, rfl, rfl, rfl, rfl, trivial⟩ ?_
        refine QW.then_ ?_
        refine CW.condP rfl (fun hc17 => ?_) (fun hc17 => ?_)
        · refine CW.seq ?_
          refine CW.region ?_
          refine RG.vl rfl rfl rfl (Ev.assign rfl rfl) ?_
          refine RG.vl rfl rfl rfl (Ev.assign rfl rfl) ?_
          refine RG.done ?_
          refine QW.then_ ?_
          refine CW.ret ?_
          refine QW.blockR ?_
          refine QW.thenRet ?_
          refine QW.ret2 rfl rfl rfl ?_
          have hB := (Ex.tr hB0 hE5)
          refine ⟨?_, hB⟩; unfold pwE pwr; rw [if_pos he0, if_pos he0, if_neg (by omega), if_pos (by omega), if_pos (by omega)]; rfl
        · refine CW.seq ?_
          refine CW.region ?_
          refine RG.vl rfl rfl rfl (Ev.move rfl rfl) ?_
          refine RG.vl rfl rfl rfl (Ev.eqI rfl rfl rfl) ?_
          refine RG.vl rfl rfl rfl (Ev.assign rfl rfl) ?_
          refine RG.done ?_
          refine QW.then_ ?_
          refine CW.condP rfl (fun hc18 => ?_) (fun hc18 => ?_)
          · refine CW.seq ?_
            refine CW.region ?_
            refine RG.vl rfl rfl rfl (Ev.assign rfl rfl) ?_
            refine RG.vl rfl rfl rfl (Ev.assign rfl rfl) ?_
            refine RG.done ?_
            refine QW.then_ ?_
            refine CW.ret ?_
            refine QW.blockR ?_
            refine QW.thenRet ?_
            refine QW.ret2 rfl rfl rfl ?_
            have hB := (Ex.tr hB0 hE5)
            refine ⟨?_, hB⟩; unfold pwE pwr; rw [if_pos he0, if_pos he0, if_neg (by omega), if_pos (by omega), if_neg (by omega)]; rfl
          · refine CW.skip ?_
            refine QW.blockN ?_
            refine QW.then_ ?_
            refine CW.seq ?_
            refine CW.region ?_
            refine RG.call rfl rfl rfl rfl rfl rfl rfl en_50 (newTables_ret _) ?_
            rintro _ w19 ⟨gt19, rfl, hge19, ht19, hx19⟩
            replace hE5 := Ex.tr hE5 hx19
            replace hE11 := Ex.tr hE11 hx19
            replace hE13 := Ex.tr hE13 hx19
            have hE20 := hx19
            refine RG.vl rfl rfl rfl (Ev.assign rfl rfl) ?_
            refine RG.done ?_
            refine QW.then_ ?_
            refine CW.seq ?_
            obtain ⟨t, ht, ht1, ht2, ht3⟩ := rem63 n
            have hq0 := Int.emod_nonneg n (show (63 : Int) ≠ 0 by omega)
            have hq1 := Int.emod_lt_of_pos n (show (0 : Int) < 63 by omega)
            have hla := lg_lt a ha64
            have hml := Nat.mul_le_mul (show lg a ≤ 62 by omega) (show (n % 63).toNat ≤ 62 by omega)
            have hlm : lg a * (n % 63).toNat % 63 < 63 := Nat.mod_lt _ (by omega)
            refine CW.region ?_
            refine RG.vl rfl rfl rfl (Ev.move rfl rfl) ?_
            refine RG.vl rfl rfl rfl ((Ev.remT rfl rfl rfl (by omega)).conv (congrArg (Value.int .i64) ht)) ?_
            refine RG.vl rfl rfl rfl (Ev.addI rfl rfl rfl (by omega)) ?_
            refine RG.vl rfl rfl rfl ((Ev.remI rfl rfl rfl (by omega)).conv (congrArg (Value.int .i64) (show (t + 63) % 63 = (((n % 63).toNat : Nat) : Int) by omega))) ?_
            refine RG.vl rfl rfl rfl (Ev.assign rfl rfl) ?_
            refine RG.done ?_
            refine QW.then_ ?_
            refine CW.seq ?_
            refine CW.draw [] (.ex) 17 rfl mixed (fun wd21 hxwd21 => ?_)
            replace hE5 := Ex.tr hE5 hxwd21
            replace hE11 := Ex.tr hE11 hxwd21
            replace hE13 := Ex.tr hE13 hxwd21
            replace hE20 := Ex.tr hE20 hxwd21
            have hE22 := hxwd21
            refine AG.takeW 0 rfl (by kernel_rfl) (by kernel_rfl) rfl rfl rfl (fun _ => Ev.move rfl rfl) ?_
            refine AG.takeW 1 rfl (by kernel_rfl) (by kernel_rfl) rfl rfl rfl (fun _ => Ev.move rfl rfl) ?_
            refine AG.takeW 2 rfl (by kernel_rfl) (by kernel_rfl) rfl rfl rfl (fun _ => Ev.move rfl rfl) ?_
            refine AG.takeW 3 rfl (by kernel_rfl) (by kernel_rfl) rfl rfl rfl (fun _ => Ev.nilC rfl rfl) ?_
            refine AG.takeW 4 rfl (by kernel_rfl) (by kernel_rfl) rfl rfl rfl (fun _ => Ev.fld rfl rfl fld_101_1) ?_
            refine AG.takeW 5 rfl (by kernel_rfl) (by kernel_rfl) rfl rfl rfl (fun _ => Ev.idxA rfl rfl rfl Try.underlying98 sz_5 (by omega)) ?_
            refine AG.take 6 rfl (by kernel_rfl) (by kernel_rfl) rfl rfl rfl (fun wq hq => Ev.ldAA rfl rfl Try.underlying5 rfl (((ht19.ext hE22).ext hq).cells) (tabs_lg a ha64)) ?_
            refine AG.takeW 7 rfl (by kernel_rfl) (by kernel_rfl) rfl rfl rfl (fun _ => Ev.to64 rfl rfl Try.underlying5 Try.underlying3 (by omega)) ?_
            refine AG.takeW 8 rfl (by kernel_rfl) (by kernel_rfl) rfl rfl rfl (fun _ => Ev.move rfl rfl) ?_
            refine AG.takeW 9 rfl (by kernel_rfl) (by kernel_rfl) rfl rfl rfl (fun _ => (Ev.mulI rfl rfl rfl (by have := Int.natCast_mul (lg a) (n % 63).toNat; omega)).conv (congrArg (Value.int .i64) (Int.natCast_mul _ _).symm)) ?_
            refine AG.takeW 10 rfl (by kernel_rfl) (by kernel_rfl) rfl rfl rfl (fun _ => (Ev.remI rfl rfl rfl (by omega)).conv (congrArg (Value.int .i64) (show ((lg a * (n % 63).toNat : Nat) : Int) % 63 = ((lg a * (n % 63).toNat % 63 : Nat) : Int) by omega))) ?_
            refine AG.takeW 11 rfl (by kernel_rfl) (by kernel_rfl) rfl rfl rfl (fun _ => Ev.nilC rfl rfl) ?_
            refine AG.takeW 12 rfl (by kernel_rfl) (by kernel_rfl) rfl rfl rfl (fun _ => Ev.fld rfl rfl fld_101_0) ?_
            refine AG.takeW 13 rfl (by kernel_rfl) (by kernel_rfl) rfl rfl rfl (fun _ => Ev.idxA rfl rfl rfl Try.underlying96 sz_5 (by omega)) ?_
            refine AG.take 14 rfl (by kernel_rfl) (by kernel_rfl) rfl rfl rfl (fun wq hq => Ev.ldAA rfl rfl Try.underlying5 rfl (((ht19.ext hE22).ext hq).cells) (tabs_pw _ hlm)) ?_
            refine AG.takeW 15 rfl (by kernel_rfl) (by kernel_rfl) rfl rfl rfl (fun _ => Ev.assign rfl rfl) ?_
            refine AG.takeW 16 rfl (by kernel_rfl) (by kernel_rfl) rfl rfl rfl (fun _ => Ev.assign rfl rfl) ?_
            refine AG.done (by kernel_rfl) ?_
            refine QW.sub (S' := [(4, _), (5, _)]) ⟨rfl, rfl, trivial⟩ ?_
            refine QW.then_ ?_
            refine CW.ret ?_
            refine QW.ret2 rfl rfl rfl ?_
            have hB := (Ex.tr hB0 hE5)
            refine ⟨?_, hB⟩; unfold pwE pwr; rw [if_pos he0, if_pos he0, if_neg (by omega), if_neg (by omega), if_neg (by omega)]
      · refine RG.pass rfl rfl rfl ?_
        refine RG.pass rfl rfl rfl ?_
        refine RG.vl rfl rfl rfl (Ev.pickF rfl rfl rfl) ?_
        refine RG.vl rfl rfl rfl (Ev.assign rfl rfl) ?_
        refine RG.done ?_
        refine QW.sub (S' := [(0, _), (1, _), (4, _), (5, _), (19, _)]) ⟨rfl, rfl, rfl, rfl, rfl, trivial⟩ ?_
        refine QW.then_ ?_
        refine CW.condF rfl ?_
        refine CW.seq ?_
        refine CW.region ?_
        refine RG.vl rfl rfl rfl (Ev.move rfl rfl) ?_
        refine RG.vl rfl rfl rfl (Ev.eqI rfl rfl rfl) ?_
        refine RG.vl rfl rfl rfl (Ev.assign rfl rfl) ?_
        refine RG.done ?_
        refine QW.then_ ?_
        refine CW.condP rfl (fun hc23 => ?_) (fun hc23 => ?_)
        · refine CW.seq ?_
          refine CW.region ?_
          refine RG.vl rfl rfl rfl (Ev.assign rfl rfl) ?_
          refine RG.vl rfl rfl rfl (Ev.assign rfl rfl) ?_
          refine RG.done ?_
          refine QW.then_ ?_
          refine CW.ret ?_
          refine QW.blockR ?_
          refine QW.thenRet ?_
          refine QW.ret2 rfl rfl rfl ?_
          have hB := (Ex.tr hB0 hE5)
          refine ⟨?_, hB⟩; unfold pwE pwr; rw [if_pos he0, if_pos he0, if_neg (by omega), if_pos (by omega), if_neg (by omega)]; rfl
        · refine CW.skip ?_
          refine QW.blockN ?_
          refine QW.then_ ?_
          refine CW.seq ?_
          refine CW.region ?_
          refine RG.call rfl rfl rfl rfl rfl rfl rfl en_50 (newTables_ret _) ?_
          rintro _ w24 ⟨gt24, rfl, hge24, ht24, hx24⟩
          replace hE5 := Ex.tr hE5 hx24
          replace hE11 := Ex.tr hE11 hx24
          replace hE13 := Ex.tr hE13 hx24
          have hE25 := hx24
          refine RG.vl rfl rfl rfl (Ev.assign rfl rfl) ?_
          refine RG.done ?_
          refine QW.then_ ?_
          refine CW.seq ?_
          obtain ⟨t, ht, ht1, ht2, ht3⟩ := rem63 n
          have hq0 := Int.emod_nonneg n (show (63 : Int) ≠ 0 by omega)
          have hq1 := Int.emod_lt_of_pos n (show (0 : Int) < 63 by omega)
          have hla := lg_lt a ha64
          have hml := Nat.mul_le_mul (show lg a ≤ 62 by omega) (show (n % 63).toNat ≤ 62 by omega)
          have hlm : lg a * (n % 63).toNat % 63 < 63 := Nat.mod_lt _ (by omega)
          refine CW.region ?_
          refine RG.vl rfl rfl rfl (Ev.move rfl rfl) ?_
          refine RG.vl rfl rfl rfl ((Ev.remT rfl rfl rfl (by omega)).conv (congrArg (Value.int .i64) ht)) ?_
          refine RG.vl rfl rfl rfl (Ev.addI rfl rfl rfl (by omega)) ?_
          refine RG.vl rfl rfl rfl ((Ev.remI rfl rfl rfl (by omega)).conv (congrArg (Value.int .i64) (show (t + 63) % 63 = (((n % 63).toNat : Nat) : Int) by omega))) ?_
          refine RG.vl rfl rfl rfl (Ev.assign rfl rfl) ?_
          refine RG.done ?_
          refine QW.then_ ?_
          refine CW.seq ?_
          refine CW.draw [] (.ex) 17 rfl mixed (fun wd26 hxwd26 => ?_)
          replace hE5 := Ex.tr hE5 hxwd26
          replace hE11 := Ex.tr hE11 hxwd26
          replace hE13 := Ex.tr hE13 hxwd26
          replace hE25 := Ex.tr hE25 hxwd26
          have hE27 := hxwd26
          refine AG.takeW 0 rfl (by kernel_rfl) (by kernel_rfl) rfl rfl rfl (fun _ => Ev.move rfl rfl) ?_
          refine AG.takeW 1 rfl (by kernel_rfl) (by kernel_rfl) rfl rfl rfl (fun _ => Ev.move rfl rfl) ?_
          refine AG.takeW 2 rfl (by kernel_rfl) (by kernel_rfl) rfl rfl rfl (fun _ => Ev.move rfl rfl) ?_
          refine AG.takeW 3 rfl (by kernel_rfl) (by kernel_rfl) rfl rfl rfl (fun _ => Ev.nilC rfl rfl) ?_
          refine AG.takeW 4 rfl (by kernel_rfl) (by kernel_rfl) rfl rfl rfl (fun _ => Ev.fld rfl rfl fld_101_1) ?_
          refine AG.takeW 5 rfl (by kernel_rfl) (by kernel_rfl) rfl rfl rfl (fun _ => Ev.idxA rfl rfl rfl Try.underlying98 sz_5 (by omega)) ?_
          refine AG.take 6 rfl (by kernel_rfl) (by kernel_rfl) rfl rfl rfl (fun wq hq => Ev.ldAA rfl rfl Try.underlying5 rfl (((ht24.ext hE27).ext hq).cells) (tabs_lg a ha64)) ?_
          refine AG.takeW 7 rfl (by kernel_rfl) (by kernel_rfl) rfl rfl rfl (fun _ => Ev.to64 rfl rfl Try.underlying5 Try.underlying3 (by omega)) ?_
          refine AG.takeW 8 rfl (by kernel_rfl) (by kernel_rfl) rfl rfl rfl (fun _ => Ev.move rfl rfl) ?_
          refine AG.takeW 9 rfl (by kernel_rfl) (by kernel_rfl) rfl rfl rfl (fun _ => (Ev.mulI rfl rfl rfl (by have := Int.natCast_mul (lg a) (n % 63).toNat; omega)).conv (congrArg (Value.int .i64) (Int.natCast_mul _ _).symm)) ?_
          refine AG.takeW 10 rfl (by kernel_rfl) (by kernel_rfl) rfl rfl rfl (fun _ => (Ev.remI rfl rfl rfl (by omega)).conv (congrArg (Value.int .i64) (show ((lg a * (n % 63).toNat : Nat) : Int) % 63 = ((lg a * (n % 63).toNat % 63 : Nat) : Int) by omega))) ?_
          refine AG.takeW 11 rfl (by kernel_rfl) (by kernel_rfl) rfl rfl rfl (fun _ => Ev.nilC rfl rfl) ?_
          refine AG.takeW 12 rfl (by kernel_rfl) (by kernel_rfl) rfl rfl rfl (fun _ => Ev.fld rfl rfl fld_101_0) ?_
          refine AG.takeW 13 rfl (by kernel_rfl) (by kernel_rfl) rfl rfl rfl (fun _ => Ev.idxA rfl rfl rfl Try.underlying96 sz_5 (by omega)) ?_
          refine AG.take 14 rfl (by kernel_rfl) (by kernel_rfl) rfl rfl rfl (fun wq hq => Ev.ldAA rfl rfl Try.underlying5 rfl (((ht24.ext hE27).ext hq).cells) (tabs_pw _ hlm)) ?_
          refine AG.takeW 15 rfl (by kernel_rfl) (by kernel_rfl) rfl rfl rfl (fun _ => Ev.assign rfl rfl) ?_
          refine AG.takeW 16 rfl (by kernel_rfl) (by kernel_rfl) rfl rfl rfl (fun _ => Ev.assign rfl rfl) ?_
          refine AG.done (by kernel_rfl) ?_
          refine QW.sub (S' := [(4, _), (5, _)]) ⟨rfl, rfl, trivial⟩ ?_
          refine QW.then_ ?_
          refine CW.ret ?_
          refine QW.ret2 rfl rfl rfl ?_
          have hB := (Ex.tr hB0 hE5)
          refine ⟨?_, hB⟩; unfold pwE pwr; rw [if_pos he0, if_pos he0, if_neg (by omega), if_neg (by omega), if_neg (by omega)]

set_option maxRecDepth 100000 in
set_option maxHeartbeats 1000000 in
theorem Inv_ret (a : Nat) (w : World)  :
    Ret Try.prog 73 [.int .u8 (a : Int)] w (fun v w' => v = .tuple #[.int .u8 ((if errL [[a]] = 0 then pwr a (-1) else 0 : Nat) : Int), .int .i64 (pwE a (-1))] ∧ Ex w w') := by
  have hB0 : Ex w w := Ex.rfl_ _
  refine Ret.of Try.func73 rfl Try.ntmps73 rfl ?_
  refine CW.seq ?_
  refine CW.region ?_
  refine RG.vl rfl rfl rfl (Ev.assign rfl rfl) ?_
  refine RG.vl rfl rfl rfl (Ev.assign rfl rfl) ?_
  refine RG.done ?_
  refine QW.then_ ?_
  refine CW.seq ?_
  refine CW.region ?_
  refine RG.vl rfl rfl rfl (Ev.move rfl rfl) ?_
  refine RG.call rfl rfl rfl rfl rfl rfl rfl en_55 (pow_ret _ _ _) ?_
  rintro _ w1 ⟨rfl, hx1⟩
  have hE2 := hx1
  refine RG.vl rfl rfl rfl (Ev.extract rfl rfl rfl) ?_
  refine RG.vl rfl rfl rfl (Ev.extract rfl rfl rfl) ?_
  refine RG.vl rfl rfl rfl (Ev.assign rfl rfl) ?_
  refine RG.vl rfl rfl rfl (Ev.assign rfl rfl) ?_
  refine RG.done ?_
  refine QW.then_ ?_
  refine CW.ret ?_
  refine QW.ret2 rfl rfl rfl ?_
  have hB := (Ex.tr hB0 hE2)
  exact ⟨rfl, hB⟩

set_option maxRecDepth 100000 in
set_option maxHeartbeats 1000000 in
theorem Eval_ret (u : Value) (p : List Nat) (x : Nat) (w : World) (hl : RdL w 1 encN u p) (hlen : p.length ≤ 100000) :
    Ret Try.prog 52 [u, .int .u8 (x : Int)] w (fun v w' => v = .tuple #[.int .u8 ((if errL [p, [x]] = 0 then evl p x else 0 : Nat) : Int), .int .i64 (errL [p, [x]])] ∧ Ex w w') := by
  obtain ⟨Au, Cu, rfl⟩ := hl.shape
  have hB0 : Ex w w := Ex.rfl_ _
  refine Ret.of Try.func52 rfl Try.ntmps52 rfl ?_
  refine CW.seq ?_
  refine CW.region ?_
  refine RG.vl rfl rfl rfl (Ev.assign rfl rfl) ?_
  refine RG.vl rfl rfl rfl (Ev.assign rfl rfl) ?_
  refine RG.done ?_
  refine QW.then_ ?_
  refine CW.seq ?_
  refine CW.seq ?_
  refine CW.region ?_
  refine RG.vl rfl rfl rfl (Ev.move rfl rfl) ?_
  refine RG.vl rfl rfl rfl (Ev.move rfl rfl) ?_
  refine RG.litO (os := [.tmp 8]) (enc := encN) ([_]) rfl rfl rfl rfl rfl rfl rfl Try.underlying22 inf_5 rfl rfl rfl rfl rfl encN_len rfl rfl (fun v1 wk2 hxwk2 hown3 hnew4 => ?_)
  have hE5 := hxwk2
  obtain ⟨Av1, Cv1, rfl⟩ := hown3.shape
  refine RG.litO (os := [.tmp 7, .tmp 9]) (enc := encV) ([_, _]) rfl rfl rfl rfl rfl rfl rfl Try.underlying95 inf_22 rfl rfl rfl rfl rfl encV_len rfl rfl (fun v6 wk7 hxwk7 hown8 hnew9 => ?_)
  have hsep10 : Sep v6 _ := Sep.of_new hown3 hnew9
  replace hE5 := Ex.tr hE5 hxwk7
  have hE11 := hxwk7
  refine RG.call rfl rfl rfl rfl rfl rfl rfl en_49 (check2_ret _ _ _ _ _  _ ((hown8.rdl encV_len)) ((hl.ext hE5)) (((Own.ext hown3 hE11).rdl encN_len))) ?_
  rintro _ w12 ⟨rfl, hx12⟩
  replace hE5 := Ex.tr hE5 hx12
  replace hE11 := Ex.tr hE11 hx12
  have hE13 := hx12
  refine RG.vl rfl rfl rfl (Ev.assign rfl rfl) ?_
  refine RG.done ?_
  refine QW.then_ ?_
  refine CW.seq ?_
  refine CW.region ?_
  refine RG.vl rfl rfl rfl (Ev.move rfl rfl) ?_
  refine RG.vl rfl rfl rfl (Ev.neI rfl rfl rfl) ?_
  refine RG.done ?_
  refine QW.then_ ?_
  refine CW.condP rfl (fun hc14 => ?_) (fun hc14 => ?_)
  · refine CW.seq ?_
    refine CW.region ?_
    refine RG.vl rfl rfl rfl (Ev.move rfl rfl) ?_
    refine RG.vl rfl rfl rfl (Ev.assign rfl rfl) ?_
    refine RG.vl rfl rfl rfl (Ev.assign rfl rfl) ?_
    refine RG.done ?_
    refine QW.then_ ?_
    refine CW.ret ?_
    refine QW.thenRet ?_
    refine QW.ret2 rfl rfl rfl ?_
    have hB := (Ex.tr hB0 hE5)
    exact ⟨by rw [if_neg (by assumption)]; rfl, hB⟩
  · refine CW.skip ?_
    refine QW.then_ ?_
    refine CW.seq ?_
    have he0 : errL [p, [x]] = 0 := by omega
    obtain ⟨⟨hp128, hpe⟩, _, hxe⟩ := errL2 he0
    have hx64 : x < 64 := hxe.head
    refine CW.region ?_
    refine RG.call rfl rfl rfl rfl rfl rfl rfl en_50 (newTables_ret _) ?_
    rintro _ w15 ⟨gt15, rfl, hge15, ht15, hx15⟩
    replace hE5 := Ex.tr hE5 hx15
    replace hE11 := Ex.tr hE11 hx15
    replace hE13 := Ex.tr hE13 hx15
    have hE16 := hx15
    refine RG.vl rfl rfl rfl (Ev.move rfl rfl) ?_
    refine RG.vl rfl rfl rfl (Ev.move rfl rfl) ?_
    refine RG.call rfl rfl rfl rfl rfl rfl rfl en_72 (eval_ret _ _ _ _ _ ht15 ((hl.ext hE5)) (by omega) (by exact hpe) (by exact hx64)) ?_
    rintro _ w17 ⟨rfl, hx17⟩
    replace hE5 := Ex.tr hE5 hx17
    replace hE11 := Ex.tr hE11 hx17
    replace hE13 := Ex.tr hE13 hx17
    replace hE16 := Ex.tr hE16 hx17
    have hE18 := hx17
    refine RG.vl rfl rfl rfl (Ev.assign rfl rfl) ?_
    refine RG.vl rfl rfl rfl (Ev.assign rfl rfl) ?_
    refine RG.done ?_
    refine QW.sub (S' := [(4, _), (5, _)]) ⟨rfl, rfl, trivial⟩ ?_
    refine QW.then_ ?_
    refine CW.ret ?_
    refine QW.ret2 rfl rfl rfl ?_
    have hB := (Ex.tr hB0 hE5)
    exact ⟨by rw [if_pos he0, he0], hB⟩

end Go.Proofs.Ytjhgihgggofocaa
