/- Texts put together by program: FC, FW, FD, LZ, SD, BV, BG, LU, SE, SF, SH, SA, SB, SC, LY, SI. -/
import Derived.Lib.AppendZerosOnto
import Derived.Laws.Cover3
import Derived.Lib.IndexLaws
import Derived.Sort.LoopGhostIn
import Derived.ChangeKeysEq
import Derived.Test.YtgjnchjkjdnidaaGreatMBarcodeTells2
/- Walks (FC). Written by program. -/
namespace Go.Proofs.YtgjnchjkjdnidaaGreat
open Go.RowKit
set_option maxRecDepth 100000 in
set_option maxHeartbeats 1000000 in
theorem Mul_ret (a b : Nat) (w : World)  :
    Ret Tryz.prog 128 [.int .u8 (a : Int), .int .u8 (b : Int)] w (fun v w' => v = .tuple #[.int .u8 ((if errL [[a, b]] = 0 then gm a b else 0 : Nat) : Int), .int .i64 (errL [[a, b]])] ∧ Ex w w') := by
  have hB0 : Ex w w := Ex.rfl_ _
  refine Ret.of Tryz.func128 rfl Tryz.ntmps128 rfl ?_
  refine CW.seq ?_
  refine CW.region ?_
  refine RG.vl rfl rfl rfl (Ev.assign rfl rfl) ?_
  refine RG.vl rfl rfl rfl (Ev.assign rfl rfl) ?_
  refine RG.done ?_
  refine QW.then_ ?_
  refine CW.seq ?_
  refine CW.seq ?_
  refine CW.region ?_
  refine RG.vl rfl rfl rfl (Ev.move rfl rfl) ?_
  refine RG.vl rfl rfl rfl (Ev.move rfl rfl) ?_
  refine RG.litO (os := [.tmp 7, .tmp 8]) (enc := encN) ([_, _]) rfl rfl rfl rfl rfl rfl rfl Tryz.underlying58 inf_5 rfl rfl rfl rfl rfl encN_len rfl rfl (fun v1 wk2 hxwk2 hown3 hnew4 => ?_)
  have hE5 := hxwk2
  obtain ⟨Av1, Cv1, rfl⟩ := hown3.shape
  refine RG.litO (os := [.tmp 9]) (enc := encV) ([_]) rfl rfl rfl rfl rfl rfl rfl Tryz.underlying184 inf_58 rfl rfl rfl rfl rfl encV_len rfl rfl (fun v6 wk7 hxwk7 hown8 hnew9 => ?_)
  have hsep10 : Sep v6 _ := Sep.of_new hown3 hnew9
  replace hE5 := Ex.tr hE5 hxwk7
  have hE11 := hxwk7
  refine RG.call rfl rfl rfl rfl rfl rfl rfl en_98 (check1_ret _ _ _  _ ((hown8.rdl encV_len)) (((Own.ext hown3 hE11).rdl encN_len))) ?_
  rintro _ w12 ⟨rfl, hx12⟩
  replace hE5 := Ex.tr hE5 hx12
  replace hE11 := Ex.tr hE11 hx12
  have hE13 := hx12
  refine RG.vl rfl rfl rfl (Ev.assign rfl rfl) ?_
  refine RG.done ?_
  refine QW.then_ ?_
  refine CW.seq ?_
  refine CW.region ?_
  refine RG.vl rfl rfl rfl (Ev.move rfl rfl) ?_
  refine RG.vl rfl rfl rfl (Ev.neI rfl rfl rfl) ?_
  refine RG.done ?_
  refine QW.then_ ?_
  refine CW.condP rfl (fun hc14 => ?_) (fun hc14 => ?_)
  · refine CW.seq ?_
    refine CW.region ?_
    refine RG.vl rfl rfl rfl (Ev.move rfl rfl) ?_
    refine RG.vl rfl rfl rfl (Ev.assign rfl rfl) ?_
    refine RG.vl rfl rfl rfl (Ev.assign rfl rfl) ?_
    refine RG.done ?_
    refine QW.then_ ?_
    refine CW.ret ?_
    refine QW.thenRet ?_
    refine QW.ret2 rfl rfl rfl ?_
    have hB := (Ex.tr hB0 hE5)
    exact ⟨by rw [if_neg (by assumption)]; rfl, hB⟩
  · refine CW.skip ?_
    refine QW.then_ ?_
    refine CW.seq ?_
    have he0 : errL [[a, b]] = 0 := by omega
    have hel := (errL1 he0).2
    have ha64 : a < 64 := hel.head
    have hb64 : b < 64 := hel.tail.head
    refine CW.region ?_
    refine RG.call rfl rfl rfl rfl rfl rfl rfl en_100 (newTables_ret _) ?_
    rintro _ w15 ⟨gt15, rfl, hge15, ht15, hx15⟩
    replace hE5 := Ex.tr hE5 hx15
    replace hE11 := Ex.tr hE11 hx15
    replace hE13 := Ex.tr hE13 hx15
    have hE16 := hx15
    refine RG.vl rfl rfl rfl (Ev.move rfl rfl) ?_
    refine RG.vl rfl rfl rfl (Ev.move rfl rfl) ?_
    refine RG.call rfl rfl rfl rfl rfl rfl rfl en_103 (mul_ret _ _ _ _ ht15 (by assumption) (by assumption)) ?_
    rintro _ w17 ⟨rfl, hx17⟩
    replace hE5 := Ex.tr hE5 hx17
    replace hE11 := Ex.tr hE11 hx17
    replace hE13 := Ex.tr hE13 hx17
    replace hE16 := Ex.tr hE16 hx17
    have hE18 := hx17
    refine RG.vl rfl rfl rfl (Ev.assign rfl rfl) ?_
    refine RG.vl rfl rfl rfl (Ev.assign rfl rfl) ?_
    refine RG.done ?_
    refine QW.sub (S' := [(4, _), (5, _)]) ⟨rfl, rfl, trivial⟩ ?_
    refine QW.then_ ?_
    refine CW.ret ?_
    refine QW.ret2 rfl rfl rfl ?_
    have hB := (Ex.tr hB0 hE5)
    exact ⟨by rw [if_pos he0, he0], hB⟩

set_option maxRecDepth 100000 in
set_option maxHeartbeats 1000000 in
theorem pow_ret (a : Nat) (n : Int) (w : World)  :
    Ret Tryz.prog 112 [.int .u8 (a : Int), .int .i64 n] w (fun v w' => v = .tuple #[.int .u8 ((if errL [[a]] = 0 then pwr a n else 0 : Nat) : Int), .int .i64 (pwE a n)] ∧ Ex w w') := by
  have hB0 : Ex w w := Ex.rfl_ _
  refine Ret.of Tryz.func112 rfl Tryz.ntmps112 rfl ?_
  refine CW.seq ?_
  refine CW.region ?_
  refine RG.vl rfl rfl rfl (Ev.assign rfl rfl) ?_
  refine RG.vl rfl rfl rfl (Ev.assign rfl rfl) ?_
  refine RG.done ?_
  refine QW.then_ ?_
  refine CW.seq ?_
  refine CW.seq ?_
  refine CW.region ?_
  refine RG.vl rfl rfl rfl (Ev.move rfl rfl) ?_
  refine RG.litO (os := [.tmp 9]) (enc := encN) ([_]) rfl rfl rfl rfl rfl rfl rfl Tryz.underlying58 inf_5 rfl rfl rfl rfl rfl encN_len rfl rfl (fun v1 wk2 hxwk2 hown3 hnew4 => ?_)
  have hE5 := hxwk2
  obtain ⟨Av1, Cv1, rfl⟩ := hown3.shape
  refine RG.litO (os := [.tmp 10]) (enc := encV) ([_]) rfl rfl rfl rfl rfl rfl rfl Tryz.underlying184 inf_58 rfl rfl rfl rfl rfl encV_len rfl rfl (fun v6 wk7 hxwk7 hown8 hnew9 => ?_)
  have hsep10 : Sep v6 _ := Sep.of_new hown3 hnew9
  replace hE5 := Ex.tr hE5 hxwk7
  have hE11 := hxwk7
  refine RG.call rfl rfl rfl rfl rfl rfl rfl en_98 (check1_ret _ _ _  _ ((hown8.rdl encV_len)) (((Own.ext hown3 hE11).rdl encN_len))) ?_
  rintro _ w12 ⟨rfl, hx12⟩
  replace hE5 := Ex.tr hE5 hx12
  replace hE11 := Ex.tr hE11 hx12
  have hE13 := hx12
  refine RG.vl rfl rfl rfl (Ev.assign rfl rfl) ?_
  refine RG.done ?_
  refine QW.then_ ?_
  refine CW.seq ?_
  refine CW.region ?_
  refine RG.vl rfl rfl rfl (Ev.move rfl rfl) ?_
  refine RG.vl rfl rfl rfl (Ev.neI rfl rfl rfl) ?_
  refine RG.done ?_
  refine QW.then_ ?_
  refine CW.condP rfl (fun hc14 => ?_) (fun hc14 => ?_)
  · refine CW.seq ?_
    refine CW.region ?_
    refine RG.vl rfl rfl rfl (Ev.move rfl rfl) ?_
    refine RG.vl rfl rfl rfl (Ev.assign rfl rfl) ?_
    refine RG.vl rfl rfl rfl (Ev.assign rfl rfl) ?_
    refine RG.done ?_
    refine QW.then_ ?_
    refine CW.ret ?_
    refine QW.thenRet ?_
    refine QW.ret2 rfl rfl rfl ?_
    have hB := (Ex.tr hB0 hE5)
    refine ⟨?_, hB⟩; unfold pwE; rw [if_neg (by assumption), if_neg (by assumption)]; rfl
  · refine CW.skip ?_
    refine QW.then_ ?_
    refine CW.seq ?_
    refine CW.block ?_
    refine CW.seq ?_
    have he0 : errL [[a]] = 0 := by omega
    have hel := (errL1 he0).2
    have ha64 : a < 64 := hel.head
    refine CW.region ?_
    refine RG.vl rfl rfl rfl (Ev.move rfl rfl) ?_
    refine RG.vl rfl rfl rfl (Ev.eqI rfl rfl rfl) ?_
    refine RG.vl rfl rfl rfl (Ev.assign rfl rfl) ?_
    refine RG.done ?_
    refine QW.then_ ?_
    refine CW.condP rfl (fun hc15 => ?_) (fun hc15 => ?_)
    · refine CW.seq ?_
      refine CW.region ?_
      refine RG.vl rfl rfl rfl (Ev.assign rfl rfl) ?_
      refine RG.vl rfl rfl rfl (Ev.assign rfl rfl) ?_
      refine RG.done ?_
      refine QW.sub (S' := [(0, _), (1, _), (4, _), (5, _)]) ⟨rfl, rfl, rfl, rfl, trivial⟩ ?_
      refine QW.then_ ?_
      refine CW.ret ?_
      refine QW.blockR ?_
      refine QW.thenRet ?_
      refine QW.ret2 rfl rfl rfl ?_
      have hB := (Ex.tr hB0 hE5)
      refine ⟨?_, hB⟩; unfold pwE pwr; rw [if_pos he0, if_pos he0, if_pos (by omega), if_neg (by omega)]; rfl
    · refine CW.seq ?_
      refine CW.region ?_
      refine RG.vl rfl rfl rfl (Ev.move rfl rfl) ?_
      refine RG.vl rfl rfl rfl (Ev.eqI rfl rfl rfl) ?_
      refine RG.vl rfl rfl rfl (Ev.move rfl rfl) ?_
      refine RG.split (d := 22) rfl (fun hg16 => ?_) (fun hg16 => ?_)
      · refine RG.vl rfl rfl rfl (Ev.move rfl rfl) ?_
        refine RG.vl rfl rfl rfl (Ev.lss rfl rfl rfl) ?_
        refine RG.vl rfl rfl rfl (Ev.pickT rfl rfl rfl) ?_
        refine RG.vl rfl rfl rfl (Ev.assign rfl rfl) ?_
        refine RG.done ?_
        refine QW.sub (S' := [(0, _), (1, _), (4, _), (5, _), (19, _)]) ⟨rfl, rfl, rfl, rfl, rfl, trivial⟩ ?_
        refine QW.then_ ?_
        refine CW.condP rfl (fun hc17 => ?_) (fun hc17 => ?_)
        · refine CW.seq ?_
          refine CW.region ?_
          refine RG.vl rfl rfl rfl (Ev.assign rfl rfl) ?_
          refine RG.vl rfl rfl rfl (Ev.assign rfl rfl) ?_
          refine RG.done ?_
          refine QW.then_ ?_
          refine CW.ret ?_
          refine QW.blockR ?_
          refine QW.thenRet ?_
          refine QW.ret2 rfl rfl rfl ?_
          have hB := (Ex.tr hB0 hE5)
          refine ⟨?_, hB⟩; unfold pwE pwr; rw [if_pos he0, if_pos he0, if_neg (by omega), if_pos (by omega), if_pos (by omega)]; rfl
        · refine CW.seq ?_
          refine CW.region ?_
          refine RG.vl rfl rfl rfl (Ev.move rfl rfl) ?_
          refine RG.vl rfl rfl rfl (Ev.eqI rfl rfl rfl) ?_
          refine RG.vl rfl rfl rfl (Ev.assign rfl rfl) ?_
          refine RG.done ?_
          refine QW.then_ ?_
          refine CW.condP rfl (fun hc18 => ?_) (fun hc18 => ?_)
          · refine CW.seq ?_
            refine CW.region ?_
            refine RG.vl rfl rfl rfl (Ev.assign rfl rfl) ?_
            refine RG.vl rfl rfl rfl (Ev.assign rfl rfl) ?_
            refine RG.done ?_
            refine QW.then_ ?_
            refine CW.ret ?_
            refine QW.blockR ?_
            refine QW.thenRet ?_
            refine QW.ret2 rfl rfl rfl ?_
            have hB := (Ex.tr hB0 hE5)
            refine ⟨?_, hB⟩; unfold pwE pwr; rw [if_pos he0, if_pos he0, if_neg (by omega), if_pos (by omega), if_neg (by omega)]; rfl
          · refine CW.skip ?_
            refine QW.blockN ?_
            refine QW.then_ ?_
            refine CW.seq ?_
            refine CW.region ?_
            refine RG.call rfl rfl rfl rfl rfl rfl rfl en_100 (newTables_ret _) ?_
            rintro _ w19 ⟨gt19, rfl, hge19, ht19, hx19⟩
            replace hE5 := Ex.tr hE5 hx19
            replace hE11 := Ex.tr hE11 hx19
            replace hE13 := Ex.tr hE13 hx19
            have hE20 := hx19
            refine RG.vl rfl rfl rfl (Ev.assign rfl rfl) ?_
            refine RG.done ?_
            refine QW.then_ ?_
            refine CW.seq ?_
            obtain ⟨t, ht, ht1, ht2, ht3⟩ := rem63 n
            have hq0 := Int.emod_nonneg n (show (63 : Int) ≠ 0 by omega)
            have hq1 := Int.emod_lt_of_pos n (show (0 : Int) < 63 by omega)
            have hla := lg_lt a ha64
            have hml := Nat.mul_le_mul (show lg a ≤ 62 by omega) (show (n % 63).toNat ≤ 62 by omega)
            have hlm : lg a * (n % 63).toNat % 63 < 63 := Nat.mod_lt _ (by omega)
            refine CW.region ?_
            refine RG.vl rfl rfl rfl (Ev.move rfl rfl) ?_
            refine RG.vl rfl rfl rfl ((Ev.remT rfl rfl rfl (by omega)).conv (congrArg (Value.int .i64) ht)) ?_
            refine RG.vl rfl rfl rfl (Ev.addI rfl rfl rfl (by omega)) ?_
            refine RG.vl rfl rfl rfl ((Ev.remI rfl rfl rfl (by omega)).conv (congrArg (Value.int .i64) (show (t + 63) % 63 = (((n % 63).toNat : Nat) : Int) by omega))) ?_
            refine RG.vl rfl rfl rfl (Ev.assign rfl rfl) ?_
            refine RG.done ?_
            refine QW.then_ ?_
            refine CW.seq ?_
            refine CW.draw [] (.ex) 17 rfl mixed (fun wd21 hxwd21 => ?_)
            replace hE5 := Ex.tr hE5 hxwd21
            replace hE11 := Ex.tr hE11 hxwd21
            replace hE13 := Ex.tr hE13 hxwd21
            replace hE20 := Ex.tr hE20 hxwd21
            have hE22 := hxwd21
            refine AG.takeW 0 rfl (by kernel_rfl) (by kernel_rfl) rfl rfl rfl (fun _ => Ev.move rfl rfl) ?_
            refine AG.takeW 1 rfl (by kernel_rfl) (by kernel_rfl) rfl rfl rfl (fun _ => Ev.move rfl rfl) ?_
            refine AG.takeW 2 rfl (by kernel_rfl) (by kernel_rfl) rfl rfl rfl (fun _ => Ev.move rfl rfl) ?_
            refine AG.takeW 3 rfl (by kernel_rfl) (by kernel_rfl) rfl rfl rfl (fun _ => Ev.nilC rfl rfl) ?_
            refine AG.takeW 4 rfl (by kernel_rfl) (by kernel_rfl) rfl rfl rfl (fun _ => Ev.fld rfl rfl fld_190_1) ?_
            refine AG.takeW 5 rfl (by kernel_rfl) (by kernel_rfl) rfl rfl rfl (fun _ => Ev.idxA rfl rfl rfl Tryz.underlying187 sz_5 (by omega)) ?_
            refine AG.take 6 rfl (by kernel_rfl) (by kernel_rfl) rfl rfl rfl (fun wq hq => Ev.ldAA rfl rfl Tryz.underlying5 rfl (((ht19.ext hE22).ext hq).cells) (tabs_lg a ha64)) ?_
            refine AG.takeW 7 rfl (by kernel_rfl) (by kernel_rfl) rfl rfl rfl (fun _ => Ev.to64 rfl rfl Tryz.underlying5 Tryz.underlying3 (by omega)) ?_
            refine AG.takeW 8 rfl (by kernel_rfl) (by kernel_rfl) rfl rfl rfl (fun _ => Ev.move rfl rfl) ?_
            refine AG.takeW 9 rfl (by kernel_rfl) (by kernel_rfl) rfl rfl rfl (fun _ => (Ev.mulI rfl rfl rfl (by have := Int.natCast_mul (lg a) (n % 63).toNat; omega)).conv (congrArg (Value.int .i64) (Int.natCast_mul _ _).symm)) ?_
            refine AG.takeW 10 rfl (by kernel_rfl) (by kernel_rfl) rfl rfl rfl (fun _ => (Ev.remI rfl rfl rfl (by omega)).conv (congrArg (Value.int .i64) (show ((lg a * (n % 63).toNat : Nat) : Int) % 63 = ((lg a * (n % 63).toNat % 63 : Nat) : Int) by omega))) ?_
            refine AG.takeW 11 rfl (by kernel_rfl) (by kernel_rfl) rfl rfl rfl (fun _ => Ev.nilC rfl rfl) ?_
            refine AG.takeW 12 rfl (by kernel_rfl) (by kernel_rfl) rfl rfl rfl (fun _ => Ev.fld rfl rfl fld_190_0) ?_
            refine AG.takeW 13 rfl (by kernel_rfl) (by kernel_rfl) rfl rfl rfl (fun _ => Ev.idxA rfl rfl rfl Tryz.underlying185 sz_5 (by omega)) ?_
            refine AG.take 14 rfl (by kernel_rfl) (by kernel_rfl) rfl rfl rfl (fun wq hq => Ev.ldAA rfl rfl Tryz.underlying5 rfl (((ht19.ext hE22).ext hq).cells) (tabs_pw _ hlm)) ?_
            refine AG.takeW 15 rfl (by kernel_rfl) (by kernel_rfl) rfl rfl rfl (fun _ => Ev.assign rfl rfl) ?_
            refine AG.takeW 16 rfl (by kernel_rfl) (by kernel_rfl) rfl rfl rfl (fun _ => Ev.assign rfl rfl) ?_
            refine AG.done (by kernel_rfl) ?_
            refine QW.sub (S' := [(4, _), (5, _)]) ⟨rfl, rfl, trivial⟩ ?_
            refine QW.then_ ?_
            refine CW.ret ?_
            refine QW.ret2 rfl rfl rfl ?_
            have hB := (Ex.tr hB0 hE5)
            refine ⟨?_, hB⟩; unfold pwE pwr; rw [if_pos he0, if_pos he0, if_neg (by omega), if_neg (by omega), if_neg (by omega)]
      · refine RG.pass rfl rfl rfl ?_
        refine RG.pass rfl rfl rfl ?_
        refine RG.vl rfl rfl rfl (Ev.pickF rfl rfl rfl) ?_
        refine RG.vl rfl rfl rfl (Ev.assign rfl rfl) ?_
        refine RG.done ?_
        refine QW.sub (S' := [(0, _), (1, _), (4, _), (5, _), (19, _)]) ⟨rfl, rfl, rfl, rfl, rfl, trivial⟩ ?_
        refine QW.then_ ?_
        refine CW.condF rfl ?_
        refine CW.seq ?_
        refine CW.region ?_
        refine RG.vl rfl rfl rfl (Ev.move rfl rfl) ?_
        refine RG.vl rfl rfl rfl (Ev.eqI rfl rfl rfl) ?_
        refine RG.vl rfl rfl rfl (Ev.assign rfl rfl) ?_
        refine RG.done ?_
        refine QW.then_ ?_
        refine CW.condP rfl (fun hc23 => ?_) (fun hc23 => ?_)
        · refine CW.seq ?_
          refine CW.region ?_
          refine RG.vl rfl rfl rfl (Ev.assign rfl rfl) ?_
          refine RG.vl rfl rfl rfl (Ev.assign rfl rfl) ?_
          refine RG.done ?_
          refine QW.then_ ?_
          refine CW.ret ?_
          refine QW.blockR ?_
          refine QW.thenRet ?_
          refine QW.ret2 rfl rfl rfl ?_
          have hB := (Ex.tr hB0 hE5)
          refine ⟨?_, hB⟩; unfold pwE pwr; rw [if_pos he0, if_pos he0, if_neg (by omega), if_pos (by omega), if_neg (by omega)]; rfl
        · refine CW.skip ?_
          refine QW.blockN ?_
          refine QW.then_ ?_
          refine CW.seq ?_
          refine CW.region ?_
          refine RG.call rfl rfl rfl rfl rfl rfl rfl en_100 (newTables_ret _) ?_
          rintro _ w24 ⟨gt24, rfl, hge24, ht24, hx24⟩
          replace hE5 := Ex.tr hE5 hx24
          replace hE11 := Ex.tr hE11 hx24
          replace hE13 := Ex.tr hE13 hx24
          have hE25 := hx24
          refine RG.vl rfl rfl rfl (Ev.assign rfl rfl) ?_
          refine RG.done ?_
          refine QW.then_ ?_
          refine CW.seq ?_
          obtain ⟨t, ht, ht1, ht2, ht3⟩ := rem63 n
          have hq0 := Int.emod_nonneg n (show (63 : Int) ≠ 0 by omega)
          have hq1 := Int.emod_lt_of_pos n (show (0 : Int) < 63 by omega)
          have hla := lg_lt a ha64
          have hml := Nat.mul_le_mul (show lg a ≤ 62 by omega) (show (n % 63).toNat ≤ 62 by omega)
          have hlm : lg a * (n % 63).toNat % 63 < 63 := Nat.mod_lt _ (by omega)
          refine CW.region ?_
          refine RG.vl rfl rfl rfl (Ev.move rfl rfl) ?_
          refine RG.vl rfl rfl rfl ((Ev.remT rfl rfl rfl (by omega)).conv (congrArg (Value.int .i64) ht)) ?_
          refine RG.vl rfl rfl rfl (Ev.addI rfl rfl rfl (by omega)) ?_
          refine RG.vl rfl rfl rfl ((Ev.remI rfl rfl rfl (by omega)).conv (congrArg (Value.int .i64) (show (t + 63) % 63 = (((n % 63).toNat : Nat) : Int) by omega))) ?_
          refine RG.vl rfl rfl rfl (Ev.assign rfl rfl) ?_
          refine RG.done ?_
          refine QW.then_ ?_
          refine CW.seq ?_
          refine CW.draw [] (.ex) 17 rfl mixed (fun wd26 hxwd26 => ?_)
          replace hE5 := Ex.tr hE5 hxwd26
          replace hE11 := Ex.tr hE11 hxwd26
          replace hE13 := Ex.tr hE13 hxwd26
          replace hE25 := Ex.tr hE25 hxwd26
          have hE27 := hxwd26
          refine AG.takeW 0 rfl (by kernel_rfl) (by kernel_rfl) rfl rfl rfl (fun _ => Ev.move rfl rfl) ?_
          refine AG.takeW 1 rfl (by kernel_rfl) (by kernel_rfl) rfl rfl rfl (fun _ => Ev.move rfl rfl) ?_
          refine AG.takeW 2 rfl (by kernel_rfl) (by kernel_rfl) rfl rfl rfl (fun _ => Ev.move rfl rfl) ?_
          refine AG.takeW 3 rfl (by kernel_rfl) (by kernel_rfl) rfl rfl rfl (fun _ => Ev.nilC rfl rfl) ?_
          refine AG.takeW 4 rfl (by kernel_rfl) (by kernel_rfl) rfl rfl rfl (fun _ => Ev.fld rfl rfl fld_190_1) ?_
          refine AG.takeW 5 rfl (by kernel_rfl) (by kernel_rfl) rfl rfl rfl (fun _ => Ev.idxA rfl rfl rfl Tryz.underlying187 sz_5 (by omega)) ?_
          refine AG.take 6 rfl (by kernel_rfl) (by kernel_rfl) rfl rfl rfl (fun wq hq => Ev.ldAA rfl rfl Tryz.underlying5 rfl (((ht24.ext hE27).ext hq).cells) (tabs_lg a ha64)) ?_
          refine AG.takeW 7 rfl (by kernel_rfl) (by kernel_rfl) rfl rfl rfl (fun _ => Ev.to64 rfl rfl Tryz.underlying5 Tryz.underlying3 (by omega)) ?_
          refine AG.takeW 8 rfl (by kernel_rfl) (by kernel_rfl) rfl rfl rfl (fun _ => Ev.move rfl rfl) ?_
          refine AG.takeW 9 rfl (by kernel_rfl) (by kernel_rfl) rfl rfl rfl (fun _ => (Ev.mulI rfl rfl rfl (by have := Int.natCast_mul (lg a) (n % 63).toNat; omega)).conv (congrArg (Value.int .i64) (Int.natCast_mul _ _).symm)) ?_
          refine AG.takeW 10 rfl (by kernel_rfl) (by kernel_rfl) rfl rfl rfl (fun _ => (Ev.remI rfl rfl rfl (by omega)).conv (congrArg (Value.int .i64) (show ((lg a * (n % 63).toNat : Nat) : Int) % 63 = ((lg a * (n % 63).toNat % 63 : Nat) : Int) by omega))) ?_
          refine AG.takeW 11 rfl (by kernel_rfl) (by kernel_rfl) rfl rfl rfl (fun _ => Ev.nilC rfl rfl) ?_
          refine AG.takeW 12 rfl (by kernel_rfl) (by kernel_rfl) rfl rfl rfl (fun _ => Ev.fld rfl rfl fld_190_0) ?_
          refine AG.takeW 13 rfl (by kernel_rfl) (by kernel_rfl) rfl rfl rfl (fun _ => Ev.idxA rfl rfl rfl Tryz.underlying185 sz_5 (by omega)) ?_
          refine AG.take 14 rfl (by kernel_rfl) (by kernel_rfl) rfl rfl rfl (fun wq hq => Ev.ldAA rfl rfl Tryz.underlying5 rfl (((ht24.ext hE27).ext hq).cells) (tabs_pw _ hlm)) ?_
          refine AG.takeW 15 rfl (by kernel_rfl) (by kernel_rfl) rfl rfl rfl (fun _ => Ev.assign rfl rfl) ?_
          refine AG.takeW 16 rfl (by kernel_rfl) (by kernel_rfl) rfl rfl rfl (fun _ => Ev.assign rfl rfl) ?_
          refine AG.done (by kernel_rfl) ?_
          refine QW.sub (S' := [(4, _), (5, _)]) ⟨rfl, rfl, trivial⟩ ?_
          refine QW.then_ ?_
          refine CW.ret ?_
          refine QW.ret2 rfl rfl rfl ?_
          have hB := (Ex.tr hB0 hE5)
          refine ⟨?_, hB⟩; unfold pwE pwr; rw [if_pos he0, if_pos he0, if_neg (by omega), if_neg (by omega), if_neg (by omega)]

set_option maxRecDepth 100000 in
set_option maxHeartbeats 1000000 in
theorem Inv_ret (a : Nat) (w : World)  :
    Ret Tryz.prog 127 [.int .u8 (a : Int)] w (fun v w' => v = .tuple #[.int .u8 ((if errL [[a]] = 0 then pwr a (-1) else 0 : Nat) : Int), .int .i64 (pwE a (-1))] ∧ Ex w w') := by
  have hB0 : Ex w w := Ex.rfl_ _
  refine Ret.of Tryz.func127 rfl Tryz.ntmps127 rfl ?_
  refine CW.seq ?_
  refine CW.region ?_
  refine RG.vl rfl rfl rfl (Ev.assign rfl rfl) ?_
  refine RG.vl rfl rfl rfl (Ev.assign rfl rfl) ?_
  refine RG.done ?_
  refine QW.then_ ?_
  refine CW.seq ?_
  refine CW.region ?_
  refine RG.vl rfl rfl rfl (Ev.move rfl rfl) ?_
  refine RG.call rfl rfl rfl rfl rfl rfl rfl en_112 (pow_ret _ _ _) ?_
  rintro _ w1 ⟨rfl, hx1⟩
  have hE2 := hx1
  refine RG.vl rfl rfl rfl (Ev.extract rfl rfl rfl) ?_
  refine RG.vl rfl rfl rfl (Ev.extract rfl rfl rfl) ?_
  refine RG.vl rfl rfl rfl (Ev.assign rfl rfl) ?_
  refine RG.vl rfl rfl rfl (Ev.assign rfl rfl) ?_
  refine RG.done ?_
  refine QW.then_ ?_
  refine CW.ret ?_
  refine QW.ret2 rfl rfl rfl ?_
  have hB := (Ex.tr hB0 hE2)
  exact ⟨rfl, hB⟩

set_option maxRecDepth 100000 in
set_option maxHeartbeats 1000000 in
theorem Eval_ret (u : Value) (p : List Nat) (x : Nat) (w : World) (hl : RdL w 1 encN u p) (hlen : p.length ≤ 100000) :
    Ret Tryz.prog 109 [u, .int .u8 (x : Int)] w (fun v w' => v = .tuple #[.int .u8 ((if errL [p, [x]] = 0 then evl p x else 0 : Nat) : Int), .int .i64 (errL [p, [x]])] ∧ Ex w w') := by
  obtain ⟨Au, Cu, rfl⟩ := hl.shape
  have hB0 : Ex w w := Ex.rfl_ _
  refine Ret.of Tryz.func109 rfl Tryz.ntmps109 rfl ?_
  refine CW.seq ?_
  refine CW.region ?_
  refine RG.vl rfl rfl rfl (Ev.assign rfl rfl) ?_
  refine RG.vl rfl rfl rfl (Ev.assign rfl rfl) ?_
  refine RG.done ?_
  refine QW.then_ ?_
  refine CW.seq ?_
  refine CW.seq ?_
  refine CW.region ?_
  refine RG.vl rfl rfl rfl (Ev.move rfl rfl) ?_
  refine RG.vl rfl rfl rfl (Ev.move rfl rfl) ?_
  refine RG.litO (os := [.tmp 8]) (enc := encN) ([_]) rfl rfl rfl rfl rfl rfl rfl Tryz.underlying58 inf_5 rfl rfl rfl rfl rfl encN_len rfl rfl (fun v1 wk2 hxwk2 hown3 hnew4 => ?_)
  have hE5 := hxwk2
  obtain ⟨Av1, Cv1, rfl⟩ := hown3.shape
  refine RG.litO (os := [.tmp 7, .tmp 9]) (enc := encV) ([_, _]) rfl rfl rfl rfl rfl rfl rfl Tryz.underlying184 inf_58 rfl rfl rfl rfl rfl encV_len rfl rfl (fun v6 wk7 hxwk7 hown8 hnew9 => ?_)
  have hsep10 : Sep v6 _ := Sep.of_new hown3 hnew9
  replace hE5 := Ex.tr hE5 hxwk7
  have hE11 := hxwk7
  refine RG.call rfl rfl rfl rfl rfl rfl rfl en_98 (check2_ret _ _ _ _ _  _ ((hown8.rdl encV_len)) ((hl.ext hE5)) (((Own.ext hown3 hE11).rdl encN_len))) ?_
  rintro _ w12 ⟨rfl, hx12⟩
  replace hE5 := Ex.tr hE5 hx12
  replace hE11 := Ex.tr hE11 hx12
  have hE13 := hx12
  refine RG.vl rfl rfl rfl (Ev.assign rfl rfl) ?_
  refine RG.done ?_
  refine QW.then_ ?_
  refine CW.seq ?_
  refine CW.region ?_
  refine RG.vl rfl rfl rfl (Ev.move rfl rfl) ?_
  refine RG.vl rfl rfl rfl (Ev.neI rfl rfl rfl) ?_
  refine RG.done ?_
  refine QW.then_ ?_
  refine CW.condP rfl (fun hc14 => ?_) (fun hc14 => ?_)
  · refine CW.seq ?_
    refine CW.region ?_
    refine RG.vl rfl rfl rfl (Ev.move rfl rfl) ?_
    refine RG.vl rfl rfl rfl (Ev.assign rfl rfl) ?_
    refine RG.vl rfl rfl rfl (Ev.assign rfl rfl) ?_
    refine RG.done ?_
    refine QW.then_ ?_
    refine CW.ret ?_
    refine QW.thenRet ?_
    refine QW.ret2 rfl rfl rfl ?_
    have hB := (Ex.tr hB0 hE5)
    exact ⟨by rw [if_neg (by assumption)]; rfl, hB⟩
  · refine CW.skip ?_
    refine QW.then_ ?_
    refine CW.seq ?_
    have he0 : errL [p, [x]] = 0 := by omega
    obtain ⟨⟨hp128, hpe⟩, _, hxe⟩ := errL2 he0
    have hx64 : x < 64 := hxe.head
    refine CW.region ?_
    refine RG.call rfl rfl rfl rfl rfl rfl rfl en_100 (newTables_ret _) ?_
    rintro _ w15 ⟨gt15, rfl, hge15, ht15, hx15⟩
    replace hE5 := Ex.tr hE5 hx15
    replace hE11 := Ex.tr hE11 hx15
    replace hE13 := Ex.tr hE13 hx15
    have hE16 := hx15
    refine RG.vl rfl rfl rfl (Ev.move rfl rfl) ?_
    refine RG.vl rfl rfl rfl (Ev.move rfl rfl) ?_
    refine RG.call rfl rfl rfl rfl rfl rfl rfl en_126 (eval_ret _ _ _ _ _ ht15 ((hl.ext hE5)) (by omega) (by exact hpe) (by exact hx64)) ?_
    rintro _ w17 ⟨rfl, hx17⟩
    replace hE5 := Ex.tr hE5 hx17
    replace hE11 := Ex.tr hE11 hx17
    replace hE13 := Ex.tr hE13 hx17
    replace hE16 := Ex.tr hE16 hx17
    have hE18 := hx17
    refine RG.vl rfl rfl rfl (Ev.assign rfl rfl) ?_
    refine RG.vl rfl rfl rfl (Ev.assign rfl rfl) ?_
    refine RG.done ?_
    refine QW.sub (S' := [(4, _), (5, _)]) ⟨rfl, rfl, trivial⟩ ?_
    refine QW.then_ ?_
    refine CW.ret ?_
    refine QW.ret2 rfl rfl rfl ?_
    have hB := (Ex.tr hB0 hE5)
    exact ⟨by rw [if_pos he0, he0], hB⟩

end Go.Proofs.YtgjnchjkjdnidaaGreat

/- Chapter 18, plain: the steps of sums, products, divisions and polynomials through points, as they are made in place. -/
namespace Go.Proofs.YtgjnchjkjdnidaaGreat

theorem take_more {α : Type} (l : List α) (i : Nat) (b : α) (h : l[i]? = some b) : l.take (i + 1) = l.take i ++ [b] := by
  rw [List.take_add_one, h]; rfl
/-- L has the coefficients F, as far as it goes. -/
def Cfs (L : List Nat) (n : Nat) (F : Nat → Nat) : Prop := L.length = n ∧ ∀ k, k < n → cf L k = F k
theorem Cfs.get {L : List Nat} {n : Nat} {F : Nat → Nat} (h : Cfs L n F) {k : Nat} (hk : k < n) : L[k]? = some (F k) := by
  rw [← h.2 k hk]; exact getElem?_cf (by rw [h.1]; exact hk)
theorem Cfs.set {L : List Nat} {n : Nat} {F G : Nat → Nat} (h : Cfs L n F) (i a : Nat) (hi : i < n) (h1 : G i = a) (h2 : ∀ k, k ≠ i → G k = F k) : Cfs (L.set i a) n G :=
  ⟨by rw [List.length_set]; exact h.1, fun k hk => by
    rw [cf_set _ _ _ _ (by rw [h.1]; exact hi)]
    by_cases e : k = i
    · subst e; rw [if_pos rfl, h1]
    · rw [if_neg e, h.2 k hk, h2 k e]⟩
theorem Cfs.congr {L : List Nat} {n : Nat} {F G : Nat → Nat} (h : Cfs L n F) (he : ∀ k, k < n → F k = G k) : Cfs L n G := ⟨h.1, fun k hk => by rw [h.2 k hk, he k hk]⟩
theorem Cfs.all {L : List Nat} {n : Nat} {F : Nat → Nat} (h : Cfs L n F) (h0 : ∀ k, n ≤ k → F k = 0) (k : Nat) : cf L k = F k := by
  rcases Nat.lt_or_ge k n with hk | hk
  · exact h.2 k hk
  · rw [cf_none (by rw [h.1]; exact hk), h0 k hk]
theorem cfs_zero (n : Nat) : Cfs (List.replicate n 0) n (fun _ => 0) := ⟨List.length_replicate, fun k _ => cf_replicate n k⟩
theorem Cfs.el {L : List Nat} {n : Nat} {F : Nat → Nat} (h : Cfs L n F) (hF : ∀ k, F k < 64) : El L := fun a ha => by
  obtain ⟨i, hi⟩ := List.mem_iff_getElem?.1 ha
  have hlt := (List.getElem?_eq_some_iff.1 hi).1
  rw [h.get (by rw [← h.1]; exact hlt)] at hi
  injection hi with hi
  rw [← hi]; exact hF i

/-! sums -/
def sumF (p q : List Nat) (i k : Nat) : Nat := cf p k ^^^ cf (q.take i) k
theorem sumF_lt {p q : List Nat} (hp : El p) (hq : El q) (i k : Nat) : sumF p q i k < 64 := xor_lt64 _ _ (hp.cf k) ((hq.take i).cf k)
theorem sum_start (p q : List Nat) : Cfs (p ++ (List.replicate (max p.length q.length) 0).drop p.length) (max p.length q.length) (sumF p q 0) := by
  refine ⟨by rw [List.length_append, List.length_drop, List.length_replicate]; omega, fun k _ => ?_⟩
  unfold sumF
  rw [cf_app, List.take_zero, cf_nil, Nat.xor_zero]
  split
  · rfl
  · rw [cf_drop, cf_replicate, cf_none (by omega)]
theorem sum_step {p q L : List Nat} {n i c : Nat} (h : Cfs L n (sumF p q i)) (hi : i < n) (hc : q[i]? = some c) : Cfs (L.set i (sumF p q i i ^^^ c)) n (sumF p q (i + 1)) := by
  refine h.set i _ hi ?_ fun k hk => ?_
  · unfold sumF; rw [cf_take, cf_take, if_pos (by omega), if_neg (by omega), Nat.xor_zero, cf_some hc]
  · unfold sumF; rw [cf_take, cf_take]; congr 1
    by_cases h1 : k < i
    · rw [if_pos h1, if_pos (by omega)]
    · rw [if_neg h1, if_neg (by omega)]
theorem sum_end {p q L : List Nat} (h : Cfs L (max p.length q.length) (sumF p q q.length)) : tr L = tr (pa p q) := by
  refine tr_congr fun k => ?_
  rw [h.all (fun k hk => by unfold sumF; rw [cf_none (by omega), cf_none (by rw [List.length_take]; omega)]; rfl), cf_pa]
  unfold sumF; rw [List.take_length]

/-! products -/
def pmF (p q : List Nat) (i a j k : Nat) : Nat := cf (pm (p.take i) q) k ^^^ (if i ≤ k ∧ k - i < j then gm a (cf q (k - i)) else 0)
theorem pmF_lt (p q : List Nat) (i a j k : Nat) : pmF p q i a j k < 64 := by
  unfold pmF
  refine xor_lt64 _ _ ((el_pm _ _).cf k) ?_
  split
  · exact gm_lt _ _
  · omega
theorem pmF_zero (p q : List Nat) (i a k : Nat) : pmF p q i a 0 k = cf (pm (p.take i) q) k := by
  unfold pmF; rw [if_neg (by omega), Nat.xor_zero]
theorem pm_step {p q L : List Nat} {n i a j b : Nat} (h : Cfs L n (pmF p q i a j)) (hi : i + j < n) (hb : q[j]? = some b) : Cfs (L.set (i + j) (pmF p q i a j (i + j) ^^^ gm a b)) n (pmF p q i a (j + 1)) := by
  refine h.set _ _ hi ?_ fun k hk => ?_
  · unfold pmF; rw [if_pos (by omega), if_neg (by omega), Nat.xor_zero, show i + j - i = j from by omega, cf_some hb]
  · unfold pmF; congr 1
    by_cases h1 : i ≤ k ∧ k - i < j
    · rw [if_pos h1, if_pos (by omega)]
    · rw [if_neg h1, if_neg (by omega)]
theorem pm_row {p q L : List Nat} {n i a : Nat} (h : Cfs L n (pmF p q i a (dg q))) (ha : p[i]? = some a) : Cfs L n (fun k => cf (pm (p.take (i + 1)) q) k) := by
  refine h.congr fun k _ => ?_
  have hi : i < p.length := (List.getElem?_eq_some_iff.1 ha).1
  rw [take_more p i a ha, cf_pm_snoc, List.length_take, Nat.min_eq_left (by omega)]
  unfold pmF; congr 1
  by_cases h1 : k < i
  · rw [if_pos h1, if_neg (by omega)]
  · rw [if_neg h1]
    by_cases h2 : k - i < dg q
    · rw [if_pos ⟨by omega, h2⟩]
    · rw [if_neg (by omega), cf_ge q _ (by omega), gm_zr]
theorem pm_end {p q L : List Nat} (hp : 0 < dg p) (hq : 0 < dg q) (h : Cfs L (dg p + dg q - 1) (fun k => cf (pm (p.take (dg p)) q) k)) : L = tr (pm p q) := by
  have hd := dg_pm p q hp hq
  refine eq_of_cf (by rw [h.1, tr_len, hd]) fun k => ?_
  have e : ∀ k, cf (pm (p.take (dg p)) q) k = cf (pm p q) k := fun k => pm_congr_l (fun i => cf_tr p i) q k
  rw [cf_tr, h.all (fun k hk => by rw [e, cf_ge _ _ (by omega)]), e]

/-! divisions -/
theorem pm_set (q : List Nat) (c : Nat) : ∀ (D : List Nat) (k : Nat), k < D.length → cf D k = 0 → ∀ x, cf (pm (D.set k c) q) x = cf (pm D q) x ^^^ (if k ≤ x then gm c (cf q (x - k)) else 0)
  | [], k, h, _, _ => by simp at h
  | a :: D, 0, _, h0, x => by
    have ha : a = 0 := h0
    subst ha
    rw [List.set_cons_zero, if_pos (Nat.zero_le _), Nat.sub_zero]
    cases x with
    | zero => rw [cf_pm_z, cf_pm_z, gm_zl, Nat.zero_xor]
    | succ x => rw [cf_pm_s, cf_pm_s, gm_zl, Nat.zero_xor, Nat.xor_comm]
  | a :: D, k + 1, h, h0, x => by
    rw [List.set_cons_succ]
    cases x with
    | zero => rw [cf_pm_z, cf_pm_z, if_neg (by omega), Nat.xor_zero]
    | succ x =>
      rw [cf_pm_s, cf_pm_s, pm_set q c D k (by simpa using h) h0 x, Nat.xor_assoc, show x + 1 - (k + 1) = x - k from by omega]
      congr 2
      by_cases hk : k ≤ x
      · rw [if_pos hk, if_pos (by omega)]
      · rw [if_neg hk, if_neg (by omega)]
/-- k1 rows are still to be taken away. -/
structure Div (p q D R : List Nat) (k1 : Nat) : Prop where
  dl : D.length = dg p - (dg q - 1)
  rl : R.length = dg p
  de : El D
  re : El R
  eq : ∀ x, cf p x = cf (pm D q) x ^^^ cf R x
  top : ∀ x, dg q - 1 + k1 ≤ x → cf R x = 0
  low : ∀ x, x < k1 → cf D x = 0
theorem div_start {p q : List Nat} (hp : El p) : Div p q (List.replicate (dg p - (dg q - 1)) 0) (tr p) (dg p - (dg q - 1)) :=
  ⟨List.length_replicate, tr_len p, fun a h => by rw [List.eq_of_mem_replicate h]; omega, hp.tr, fun x => by
    rw [pm_congr_l (p' := []) (fun i => by rw [cf_replicate, cf_nil]), show pm [] q = [] from rfl, cf_nil, Nat.zero_xor, cf_tr],
   fun x hx => by rw [cf_tr]; exact cf_ge p x (by omega), fun x _ => cf_replicate _ _⟩
def divF (q R : List Nat) (k c j x : Nat) : Nat := cf R x ^^^ (if k ≤ x ∧ x - k < j then gm c (cf q (x - k)) else 0)
theorem divF_lt {q R : List Nat} (hR : El R) (k c j x : Nat) : divF q R k c j x < 64 := by
  unfold divF
  refine xor_lt64 _ _ (hR.cf x) ?_
  split
  · exact gm_lt _ _
  · omega
theorem div_cfs (q R : List Nat) (k c : Nat) : Cfs R R.length (divF q R k c 0) := ⟨rfl, fun x _ => by unfold divF; rw [if_neg (by omega), Nat.xor_zero]⟩
theorem div_step {q R L : List Nat} {n k c j b : Nat} (h : Cfs L n (divF q R k c j)) (hi : k + j < n) (hb : q[j]? = some b) : Cfs (L.set (k + j) (divF q R k c j (k + j) ^^^ gm c b)) n (divF q R k c (j + 1)) := by
  refine h.set _ _ hi ?_ fun x hx => ?_
  · unfold divF; rw [if_pos (by omega), if_neg (by omega), Nat.xor_zero, show k + j - k = j from by omega, cf_some hb]
  · unfold divF; congr 1
    by_cases h1 : k ≤ x ∧ x - k < j
    · rw [if_pos h1, if_pos (by omega)]
    · rw [if_neg h1, if_neg (by omega)]
theorem div_row {p q D R L : List Nat} {k : Nat} (hq : 0 < dg q) (hqe : El q) (h : Div p q D R (k + 1)) (hk : k + 1 ≤ D.length) (hL : Cfs L R.length (divF q R k (gm (cf R (k + (dg q - 1))) (gi (cf q (dg q - 1)))) (dg q))) :
    Div p q (D.set k (gm (cf R (k + (dg q - 1))) (gi (cf q (dg q - 1))))) L k := by
  have hq64 := hqe.cf (dg q - 1)
  have hqt := cf_top q hq
  generalize hc : gm (cf R (k + (dg q - 1))) (gi (cf q (dg q - 1))) = c at *
  have hF : ∀ x, divF q R k c (dg q) x = cf R x ^^^ (if k ≤ x then gm c (cf q (x - k)) else 0) := fun x => by
    unfold divF; congr 1
    by_cases h1 : k ≤ x
    · rw [if_pos h1]
      by_cases h2 : x - k < dg q
      · rw [if_pos ⟨h1, h2⟩]
      · rw [if_neg (by omega), cf_ge q _ (by omega), gm_zr]
    · rw [if_neg (by omega), if_neg h1]
  have hall : ∀ x, cf L x = divF q R k c (dg q) x := hL.all fun x hx => by
    rw [hF, cf_none hx, Nat.zero_xor]
    split
    · have := h.dl; have := h.rl
      rw [cf_ge q _ (by omega), gm_zr]
    · rfl
  have hc64 : c < 64 := by rw [← hc]; exact gm_lt _ _
  refine ⟨by rw [List.length_set]; exact h.dl, by rw [hL.1]; exact h.rl, fun a ha => ?_, hL.el (divF_lt h.re k c _), fun x => ?_, fun x hx => ?_, fun x hx => ?_⟩
  · rcases List.mem_or_eq_of_mem_set ha with ha | rfl
    · exact h.de a ha
    · exact hc64
  · rw [h.eq x, pm_set q c D k (by omega) (h.low k (by omega)) x, hall, hF, Nat.xor_assoc]
    congr 1
    rw [Nat.xor_comm (cf R x), ← Nat.xor_assoc, Nat.xor_self, Nat.zero_xor]
  · rw [hall, hF, if_pos (by omega)]
    rcases Nat.eq_or_lt_of_le hx with e | hlt
    · have e1 : x = k + (dg q - 1) := by omega
      subst e1
      rw [show k + (dg q - 1) - k = dg q - 1 from by omega, ← hc, gm_assoc, gm_comm (gi _), gm_gi _ hq64 hqt, gm_one _ (h.re.cf _), Nat.xor_self]
    · rw [h.top x (by omega), cf_ge q _ (by omega), gm_zr]; rfl
  · rw [cf_set _ _ _ _ (by omega), if_neg (by omega)]; exact h.low x (by omega)
theorem div_end {p q D R : List Nat} (hq : 0 < dg q) (h : Div p q D R 0) : IsDiv p q D (tr R) ∧ tr D = D := by
  have hd : IsDiv p q D (tr R) := ⟨fun x => by rw [cf_tr]; exact h.eq x, by
    rw [dg_tr]; have := dg_le R (dg q - 1) fun x hx => h.top x (by omega); omega⟩
  refine ⟨hd, tr_self ?_⟩
  have hl := dg_len D
  have hdl := h.dl
  rcases Nat.lt_or_ge (dg p) (dg q) with hlt | hge
  · omega
  · have hlr := hd.lt
    have hdp : dg (pm D q) = dg p := by
      have h1 := dg_eq (pm D q) (dg p - 1) (by
        have e := hd.eq (dg p - 1)
        rw [cf_ge (tr R) _ (by omega), Nat.xor_zero] at e
        rw [← e]; exact cf_top p (by omega)) (fun x hx => by
          have e := hd.eq x
          rw [cf_ge (tr R) _ (by omega), Nat.xor_zero, cf_ge p x (by omega)] at e
          exact e.symm)
      omega
    rcases Nat.eq_zero_or_pos (dg D) with h0 | h0
    · rw [pm_zero D q (.inl h0)] at hdp; omega
    · rw [dg_pm D q h0 hq] at hdp; omega
def divE (p q : List Nat) : Int := if errL [p, q] = 0 then (if dg q = 0 then 6 else 0) else errL [p, q]
def mulE (p q : List Nat) : Int := if errL [p, q] = 0 then (if 128 < dg p + dg q - 1 then 5 else 0) else errL [p, q]
end Go.Proofs.YtgjnchjkjdnidaaGreat

/- Walks (FD). Written by program. -/
namespace Go.Proofs.YtgjnchjkjdnidaaGreat
open Go.RowKit
set_option maxRecDepth 100000 in
set_option maxHeartbeats 2000000 in
theorem divide_ret (u v : Value) (p q : List Nat) (w : World) (hl : RdL w 1 encN u p) (hm : RdL w 1 encN v q) (hlen : p.length ≤ 100000) (hlen2 : q.length ≤ 100000) :
    Ret Tryz.prog 60 [u, v] w (fun v w' => ∃ r1 r2 d r, v = .tuple #[r1, r2, .int .i64 (divE p q)] ∧ Own w' w.heap.size 5 1 encN r1 d ∧ Own w' w.heap.size 5 1 encN r2 r ∧ Sep r1 r2 ∧ (divE p q = 0 → IsDiv p q d r ∧ tr d = d ∧ tr r = r ∧ El d ∧ El r) ∧ (divE p q ≠ 0 → d = [] ∧ r = []) ∧ Ex w w') := by
  obtain ⟨Au, Cu, rfl⟩ := hl.shape
  obtain ⟨Av, Cv, rfl⟩ := hm.shape
  have hB0 : Ex w w := Ex.rfl_ _
  refine Ret.of Tryz.func60 rfl Tryz.ntmps60 rfl ?_
  refine CW.seq ?_
  refine CW.region ?_
  refine RG.vl rfl rfl rfl (Ev.assign rfl rfl) ?_
  refine RG.vl rfl rfl rfl (Ev.assign rfl rfl) ?_
  refine RG.vl rfl rfl rfl (Ev.assign rfl rfl) ?_
  refine RG.done ?_
  refine QW.then_ ?_
  refine CW.seq ?_
  refine CW.seq ?_
  refine CW.region ?_
  refine RG.vl rfl rfl rfl (Ev.move rfl rfl) ?_
  refine RG.vl rfl rfl rfl (Ev.move rfl rfl) ?_
  refine RG.litO (os := [.tmp 16, .tmp 17]) (enc := encV) ([_, _]) rfl rfl rfl rfl rfl rfl rfl Tryz.underlying184 inf_58 rfl rfl rfl rfl rfl encV_len rfl rfl (fun v1 wk2 hxwk2 hown3 hnew4 => ?_)
  have hE5 := hxwk2
  refine RG.call rfl rfl rfl rfl rfl rfl rfl en_98 (check2_ret _ _ _ _ _  _ ((hown3.rdl encV_len)) ((hl.ext hE5)) ((hm.ext hE5))) ?_
  rintro _ w6 ⟨rfl, hx6⟩
  replace hE5 := Ex.tr hE5 hx6
  have hE7 := hx6
  refine RG.vl rfl rfl rfl (Ev.assign rfl rfl) ?_
  refine RG.done ?_
  refine QW.then_ ?_
  refine CW.seq ?_
  refine CW.region ?_
  refine RG.vl rfl rfl rfl (Ev.move rfl rfl) ?_
  refine RG.vl rfl rfl rfl (Ev.neI rfl rfl rfl) ?_
  refine RG.done ?_
  refine QW.then_ ?_
  refine CW.condP rfl (fun hc8 => ?_) (fun hc8 => ?_)
  · refine CW.seq ?_
    refine CW.region ?_
    refine RG.vl rfl rfl rfl (Ev.move rfl rfl) ?_
    refine RG.vl rfl rfl rfl (Ev.assign rfl rfl) ?_
    refine RG.vl rfl rfl rfl (Ev.assign rfl rfl) ?_
    refine RG.vl rfl rfl rfl (Ev.assign rfl rfl) ?_
    refine RG.done ?_
    refine QW.sub (S' := [(0, _), (1, _), (4, _), (5, _), (6, _)]) ⟨rfl, rfl, rfl, rfl, rfl, trivial⟩ ?_
    refine QW.then_ ?_
    refine CW.ret ?_
    refine QW.thenRet ?_
    refine QW.ret3 rfl rfl rfl rfl ?_
    have hB := (Ex.tr hB0 hE5)
    have hmE : divE p q = errL [p, q] := by unfold divE; rw [if_neg (by assumption)]
    exact ⟨_, _, [], [], by rw [hmE], Own.nil_ _ _ _ _ _, Own.nil_ _ _ _ _ _, Sep.nil_ _, fun h => absurd h (by rw [hmE]; assumption), fun _ => ⟨rfl, rfl⟩, hB⟩
  · refine CW.skip ?_
    refine QW.then_ ?_
    refine CW.seq ?_
    have he0 : errL [p, q] = 0 := by omega
    obtain ⟨⟨hp128, hpe⟩, hq128, hqe⟩ := errL2 he0
    have hdp := dg_len p
    have hdq := dg_len q
    refine CW.region ?_
    refine RG.vl rfl rfl rfl (Ev.move rfl rfl) ?_
    refine RG.call rfl rfl rfl rfl rfl rfl rfl en_99 (degree_ret _ _ _ ((hm.ext hE5)) (by first | omega | (rw [List.length_replicate]; omega))) ?_
    rintro _ w9 ⟨rfl, hx9⟩
    replace hE5 := Ex.tr hE5 hx9
    replace hE7 := Ex.tr hE7 hx9
    have hE10 := hx9
    refine RG.vl rfl rfl rfl (Ev.assign rfl rfl) ?_
    refine RG.done ?_
    refine QW.then_ ?_
    refine CW.seq ?_
    refine CW.seq ?_
    refine CW.region ?_
    refine RG.vl rfl rfl rfl (Ev.move rfl rfl) ?_
    refine RG.vl rfl rfl rfl (Ev.lss rfl rfl rfl) ?_
    refine RG.done ?_
    refine QW.sub (S' := [(0, _), (1, _), (4, _), (5, _), (6, _), (8, _), (26, _)]) ⟨rfl, rfl, rfl, rfl, rfl, rfl, rfl, trivial⟩ ?_
    refine QW.then_ ?_
    refine CW.condP rfl (fun hc11 => ?_) (fun hc11 => ?_)
    · refine CW.seq ?_
      refine CW.region ?_
      refine RG.vl rfl rfl rfl (Ev.assign rfl rfl) ?_
      refine RG.vl rfl rfl rfl (Ev.assign rfl rfl) ?_
      refine RG.vl rfl rfl rfl (Ev.assign rfl rfl) ?_
      refine RG.done ?_
      refine QW.then_ ?_
      refine CW.ret ?_
      refine QW.thenRet ?_
      refine QW.ret3 rfl rfl rfl rfl ?_
      have hB := (Ex.tr hB0 hE5)
      have hmE : divE p q = 6 := by unfold divE; rw [if_pos he0, if_pos (by omega)]
      exact ⟨_, _, [], [], by rw [hmE], Own.nil_ _ _ _ _ _, Own.nil_ _ _ _ _ _, Sep.nil_ _, fun h => absurd h (by rw [hmE]; decide), fun _ => ⟨rfl, rfl⟩, hB⟩
    · refine CW.skip ?_
      refine QW.then_ ?_
      refine CW.seq ?_
      refine CW.region ?_
      refine RG.call rfl rfl rfl rfl rfl rfl rfl en_100 (newTables_ret _) ?_
      rintro _ w12 ⟨gt12, rfl, hge12, ht12, hx12⟩
      replace hE5 := Ex.tr hE5 hx12
      replace hE7 := Ex.tr hE7 hx12
      replace hE10 := Ex.tr hE10 hx12
      have hE13 := hx12
      refine RG.vl rfl rfl rfl (Ev.assign rfl rfl) ?_
      refine RG.done ?_
      refine QW.then_ ?_
      refine CW.seq ?_
      refine CW.region ?_
      refine RG.vl rfl rfl rfl (Ev.move rfl rfl) ?_
      replace hl := (hl.ext hE5)
      replace hm := (hm.ext hE5)
      replace hown3 := (Own.ext hown3 hE7)
      have hR14 := (Ex.tr hB0 hE5)
      have hR15 := hE7
      have hR16 := hE10
      have hR17 := hE13
      refine RG.call rfl rfl rfl rfl rfl rfl rfl en_101 (trimmed_ret _ _ _ (hl) (by omega)) ?_
      have hpre18 := hR14
      rintro vt w18 ⟨hvt, hx18⟩
      have hsep19 : Sep vt _ := Sep.of_new hown3 (fun k h => Own.ge hvt h)
      have hE20 := hx18
      refine RG.vl rfl rfl rfl (Ev.assign rfl rfl) ?_
      refine RG.done ?_
      refine QW.then_ ?_
      refine CW.seq ?_
      have htl := tr_len p
      refine CW.region ?_
      refine RG.vl rfl rfl rfl (Ev.move rfl rfl) ?_
      refine RG.vl rfl rfl rfl (Ev.lenL rfl rfl rfl Tryz.underlying58 ((hvt.rdl encN_len))) ?_
      refine RG.vl rfl rfl rfl (Ev.move rfl rfl) ?_
      refine RG.vl rfl rfl rfl (Ev.subI rfl rfl rfl (by omega)) ?_
      refine RG.vl rfl rfl rfl (Ev.max2 rfl rfl rfl rfl) ?_
      refine RG.makeO (m := dg p - (dg q - 1)) (enc := encN) 0 rfl rfl rfl rfl rfl rfl (by omega) Tryz.underlying58 inf_5 encN_len rfl rfl (by omega) (by simp only [maxLen]; omega) (fun vq wk21 hxwk21 hown22 hnew23 => ?_)
      have hsep24 : Sep vq _ := Sep.of_new (Own.ext hown3 hE20) hnew23
      have hsep25 : Sep vq _ := Sep.of_new hvt hnew23
      replace hown22 := Own.low (B' := w12.heap.size) hown22 (by have := hE20.size; omega)
      replace hE20 := Ex.tr hE20 hxwk21
      have hE26 := hxwk21
      refine RG.vl rfl rfl rfl (Ev.assign rfl rfl) ?_
      refine RG.done ?_
      refine QW.then_ ?_
      refine CW.seq ?_
      have hq64 := hqe.cf (dg q - 1)
      have hqk : q[dg q - 1]? = some (cf q (dg q - 1)) := getElem?_cf (by omega)
      refine CW.region ?_
      refine RG.vl rfl rfl rfl (Ev.move rfl rfl) ?_
      refine RG.vl rfl rfl rfl (Ev.move rfl rfl) ?_
      refine RG.vl rfl rfl rfl ((Ev.move rfl rfl).conv (congrArg (Value.int .i64) (show (dg q : Int) - 1 = ((dg q - 1 : Nat) : Int) by omega))) ?_
      refine RG.idxL rfl rfl rfl rfl rfl rfl Tryz.underlying58 sz_5 ((hm.ext hE20)) (hqk) (fun p27 hp27b hp27 => ?_)
      refine RG.vl rfl rfl rfl (Ev.ld0 rfl rfl Tryz.underlying5 rfl (hp27) (rfl)) ?_
      refine RG.call rfl rfl rfl rfl rfl rfl rfl en_102 (inv_ret _ _ _ (ht12.ext hE20) (by exact hq64)) ?_
      rintro _ w28 ⟨rfl, hx28⟩
      replace hE20 := Ex.tr hE20 hx28
      replace hE26 := Ex.tr hE26 hx28
      have hE29 := hx28
      refine RG.vl rfl rfl rfl (Ev.assign rfl rfl) ?_
      refine RG.done ?_
      refine QW.sub (S' := [(1, _), (4, _), (5, _), (6, _), (8, _), (9, _), (10, _), (11, _), (12, _)]) ⟨rfl, rfl, rfl, rfl, rfl, rfl, rfl, rfl, rfl, trivial⟩ ?_
      refine QW.then_ ?_
      refine CW.seq ?_
      refine CW.seq ?_
      refine CW.region ?_
      refine RG.vl rfl rfl rfl (Ev.move rfl rfl) ?_
      refine RG.vl rfl rfl rfl ((Ev.lenL rfl rfl rfl Tryz.underlying58 (((Own.ext hown22 hE29).rdl encN_len))).conv (congrArg (Value.int .i64) (show ((List.replicate (dg p - (dg q - 1)) 0).length : Int) = ((dg p - (dg q - 1) : Nat) : Int) by rw [List.length_replicate]))) ?_
      refine RG.vl rfl rfl rfl (Ev.subI rfl rfl rfl (by omega)) ?_
      refine RG.vl rfl rfl rfl (Ev.assign rfl rfl) ?_
      refine RG.done ?_
      refine QW.then_ ?_
      refine CW.block ?_
      refine CW.loop3 [(1, _), (4, _), (5, _), (6, _), (8, _), (9, _), (10, _), (11, _), (12, _)] ⟨rfl, rfl, rfl, rfl, rfl, rfl, rfl, rfl, rfl, trivial⟩ (fun (k1 : Nat) (D : List Nat) (R : List Nat) => [(13, .int .i64 ((k1 : Int) - 1))]) (fun k1 D R w' => (k1 ≤ dg p - (dg q - 1) ∧ Div p q D R k1 ∧ Own w' w12.heap.size 5 1 encN vq D ∧ Own w' w12.heap.size 5 1 encN vt R) ∧ Ex w12 w') (fun k1 D R => k1) (dg p - (dg q - 1)) (List.replicate (dg p - (dg q - 1)) 0) (tr p) ⟨rfl, trivial⟩ ⟨⟨Nat.le_refl _, div_start hpe, (Own.ext hown22 hE29), (Own.ext hvt hE26)⟩, hE20⟩ ?_
      rintro k1 D R wl30 ⟨⟨hk1, hdv, hvq, hvr⟩, hxwl30⟩
      refine CW.sub (S' := [(13, _), (1, _), (4, _), (5, _), (6, _), (8, _), (9, _), (10, _), (11, _), (12, _)]) ⟨rfl, rfl, rfl, rfl, rfl, rfl, rfl, rfl, rfl, rfl, trivial⟩ ?_
      refine CW.seq ?_
      refine CW.seq ?_
      refine CW.region ?_
      refine RG.vl rfl rfl rfl (Ev.move rfl rfl) ?_
      refine RG.vl rfl rfl rfl (Ev.geq rfl rfl rfl) ?_
      refine RG.done ?_
      refine QW.then_ ?_
      refine CW.condP rfl (fun hc31 => ?_) (fun hc31 => ?_)
      · refine CW.skip ?_
        refine QW.then_ ?_
        refine CW.seq ?_
        refine CW.block ?_
        refine CW.seq ?_
        obtain ⟨k, rfl⟩ : ∃ k, k1 = k + 1 := ⟨k1 - 1, by omega⟩
        have hRl := hdv.rl
        have hDl := hdv.dl
        have hR64 := hdv.re.cf (k + (dg q - 1))
        have hgi := (gi_lt (cf q (dg q - 1))).2
        have htq : ((q.take (dg q)).drop 0).length = dg q := by rw [List.length_drop, List.length_take]; omega
        refine CW.region ?_
        refine RG.vl rfl rfl rfl (Ev.move rfl rfl) ?_
        refine RG.vl rfl rfl rfl ((Ev.move rfl rfl).conv (congrArg (Value.int .i64) (show ((k + 1 : Nat) : Int) - 1 = (k : Int) by omega))) ?_
        refine RG.vl rfl rfl rfl (Ev.move rfl rfl) ?_
        refine RG.vl rfl rfl rfl (Ev.move rfl rfl) ?_
        refine RG.vl rfl rfl rfl ((Ev.move rfl rfl).conv (congrArg (Value.int .i64) (show ((k + 1 : Nat) : Int) - 1 = (k : Int) by omega))) ?_
        refine RG.vl rfl rfl rfl ((Ev.move rfl rfl).conv (congrArg (Value.int .i64) (show (dg q : Int) - 1 = ((dg q - 1 : Nat) : Int) by omega))) ?_
        refine RG.vl rfl rfl rfl ((Ev.addI rfl rfl rfl (by omega)).conv (congrArg (Value.int .i64) (Int.natCast_add k (dg q - 1)).symm)) ?_
        refine RG.idxO rfl rfl rfl rfl rfl rfl Tryz.underlying58 sz_5 encN_len (hvr) (getElem?_cf (by omega)) (fun g33 hg33 hBg33 hp32b hp32 => ?_)
        refine RG.vl rfl rfl rfl (Ev.ld0 rfl rfl Tryz.underlying5 rfl (hp32) (rfl)) ?_
        refine RG.vl rfl rfl rfl (Ev.move rfl rfl) ?_
        refine RG.call rfl rfl rfl rfl rfl rfl rfl en_103 (mul_ret _ _ _ _ (ht12.ext hxwl30) (by exact hR64) (by exact hgi)) ?_
        rintro _ w34 ⟨rfl, hx34⟩
        replace hxwl30 := Ex.tr hxwl30 hx34
        have hE35 := hx34
        refine RG.idxO rfl rfl rfl rfl rfl rfl Tryz.underlying58 sz_5 encN_len ((Own.ext hvq hE35)) (getElem?_cf (by omega)) (fun g37 hg37 hBg37 hp36b hp36 => ?_)
        refine RG.stOw0 (g := g37) (_) rfl rfl rfl rfl rfl sz_5 rfl (fun _ => rfl) (Own.ext hvq hE35) hg37 (getElem?_cf (by omega)) rfl (rfl) (fun ws38 hwws38 hown39 => ?_)
        replace hvr := Own.far (Own.ext hvr hE35) hwws38 (fun e => hsep25 _ hg37 e)
        replace hxwl30 := Wr.below hxwl30 hwws38 hBg37
        refine RG.done ?_
        refine QW.sub (S' := [(1, _), (4, _), (5, _), (6, _), (8, _), (9, _), (10, _), (11, _), (12, _), (13, _)]) ⟨rfl, rfl, rfl, rfl, rfl, rfl, rfl, rfl, rfl, rfl, trivial⟩ ?_
        refine QW.then_ ?_
        refine CW.seq ?_
        refine CW.region ?_
        refine RG.vl rfl rfl rfl (Ev.move rfl rfl) ?_
        refine RG.vl rfl rfl rfl ((Ev.move rfl rfl).conv (congrArg (Value.int .i64) (show (dg q : Int) - 1 = ((dg q - 1 : Nat) : Int) by omega))) ?_
        refine RG.vl rfl rfl rfl ((Ev.addI rfl rfl rfl (by omega)).conv (congrArg (Value.int .i64) (show ((dg q - 1 : Nat) : Int) + 1 = (dg q : Int) by omega))) ?_
        refine RG.sliceL (L := 0) (H := dg q) _ rfl rfl rfl rfl rfl Tryz.underlying58 sz_5 (hm) (.inl ⟨rfl, rfl⟩) (.inr ⟨_, _, _, rfl, rfl, by omega⟩) (by omega) (by omega) (fun v40 hrv40 => ?_)
        refine RG.vl rfl rfl rfl (Ev.lenL rfl rfl rfl Tryz.underlying58 ((hrv40.ext hxwl30))) ?_
        refine RG.vl rfl rfl rfl (Ev.move rfl rfl) ?_
        refine RG.done ?_
        refine QW.then_ ?_
        refine CW.block ?_
        refine CW.loop2 [(1, _), (4, _), (5, _), (6, _), (8, _), (9, _), (10, _), (11, _), (12, _), (13, _), (64, _), (65, _)] ⟨rfl, rfl, rfl, rfl, rfl, rfl, rfl, rfl, rfl, rfl, rfl, rfl, trivial⟩ (fun (j : Nat) (M : List Nat) => [(66, .int .i64 j)]) (fun j M w' => (j ≤ dg q ∧ Cfs M R.length (divF q R k (gm (cf R (k + (dg q - 1))) (gi (cf q (dg q - 1)))) j) ∧ Own w' w12.heap.size 5 1 encN vq (D.set k (gm (cf R (k + (dg q - 1))) (gi (cf q (dg q - 1))))) ∧ Own w' w12.heap.size 5 1 encN vt M) ∧ Ex w12 w') (fun j M => dg q - j) (0) (R) ⟨rfl, trivial⟩ ⟨⟨Nat.zero_le _, div_cfs q R k _, hown39, hvr⟩, hxwl30⟩ ?_
        rintro j M wl41 ⟨⟨hj, hM, hvq, hvr⟩, hxwl41⟩
        refine CW.sub (S' := [(66, _), (1, _), (4, _), (5, _), (6, _), (8, _), (9, _), (10, _), (11, _), (12, _), (13, _), (64, _), (65, _)]) ⟨rfl, rfl, rfl, rfl, rfl, rfl, rfl, rfl, rfl, rfl, rfl, rfl, rfl, trivial⟩ ?_
        refine CW.seq ?_
        refine CW.region ?_
        refine RG.vl rfl rfl rfl (Ev.lss rfl rfl rfl) ?_
        refine RG.done ?_
        refine QW.then_ ?_
        refine CW.seq ?_
        refine CW.condP rfl (fun hc42 => ?_) (fun hc42 => ?_)
        · refine CW.skip ?_
          refine QW.then_ ?_
          refine CW.seq ?_
          refine CW.block ?_
          refine CW.seq ?_
          obtain ⟨b, hbb⟩ : ∃ c, q[j]? = some c := ⟨_, List.getElem?_eq_getElem (by omega)⟩
          have hbb' : ((q.take (dg q)).drop 0)[j]? = some b := by rw [List.getElem?_drop, List.getElem?_take, Nat.zero_add, if_pos (by omega)]; exact hbb
          have hb64 := hqe.get hbb
          have hMl := hM.1
          have hC64 : (gm (cf R (k + (dg q - 1))) (gi (cf q (dg q - 1)))) < 64 := gm_lt _ _
          refine CW.region ?_
          refine RG.vl rfl rfl rfl (Ev.move rfl rfl) ?_
          refine RG.idxL rfl rfl rfl rfl rfl rfl Tryz.underlying58 sz_5 ((hrv40.ext hxwl41)) (hbb') (fun p43 hp43b hp43 => ?_)
          refine RG.vl rfl rfl rfl (Ev.ld0 rfl rfl Tryz.underlying5 rfl (hp43) (rfl)) ?_
          refine RG.vl rfl rfl rfl (Ev.assign rfl rfl) ?_
          refine RG.vl rfl rfl rfl (Ev.assign rfl rfl) ?_
          refine RG.done ?_
          refine QW.then_ ?_
          refine CW.draw [15] (.ex) 16 rfl mixed (fun wd44 hxwd44 => ?_)
          replace hxwl41 := Ex.tr hxwl41 hxwd44
          have hE45 := hxwd44
          refine AG.takeW 0 rfl (by kernel_rfl) (by kernel_rfl) rfl rfl rfl (fun _ => Ev.move rfl rfl) ?_
          refine AG.takeW 1 rfl (by kernel_rfl) (by kernel_rfl) rfl rfl rfl (fun _ => (Ev.move rfl rfl).conv (congrArg (Value.int .i64) (show ((k + 1 : Nat) : Int) - 1 = (k : Int) by omega))) ?_
          refine AG.takeW 2 rfl (by kernel_rfl) (by kernel_rfl) rfl rfl rfl (fun _ => Ev.move rfl rfl) ?_
          refine AG.takeW 3 rfl (by kernel_rfl) (by kernel_rfl) rfl rfl rfl (fun _ => (Ev.addI rfl rfl rfl (by omega)).conv (congrArg (Value.int .i64) (Int.natCast_add k j).symm)) ?_
          refine AG.idxO _ 4 rfl (by kernel_rfl) (by kernel_rfl) rfl rfl rfl rfl rfl rfl Tryz.underlying58 sz_5 encN_len ((Own.ext hvr hE45)) (hM.get (by omega)) (fun g47 hg47 hBg47 hp46b hp46 => ?_)
          refine AG.take 5 rfl (by kernel_rfl) (by kernel_rfl) rfl rfl rfl (fun wq hq => Ev.ld0 rfl rfl Tryz.underlying5 rfl (hp46.ext hq hp46b) (rfl)) ?_
          refine AG.takeW 6 rfl (by kernel_rfl) (by kernel_rfl) rfl rfl rfl (fun _ => Ev.move rfl rfl) ?_
          refine AG.takeW 7 rfl (by kernel_rfl) (by kernel_rfl) rfl rfl rfl (fun _ => Ev.move rfl rfl) ?_
          refine AG.takeW 8 rfl (by kernel_rfl) (by kernel_rfl) rfl rfl rfl (fun _ => (Ev.move rfl rfl).conv (congrArg (Value.int .i64) (show ((k + 1 : Nat) : Int) - 1 = (k : Int) by omega))) ?_
          refine AG.idxO _ 9 rfl (by kernel_rfl) (by kernel_rfl) rfl rfl rfl rfl rfl rfl Tryz.underlying58 sz_5 encN_len ((Own.ext hvq hE45)) (List.getElem?_set_self (by omega)) (fun g49 hg49 hBg49 hp48b hp48 => ?_)
          refine AG.take 10 rfl (by kernel_rfl) (by kernel_rfl) rfl rfl rfl (fun wq hq => Ev.ld0 rfl rfl Tryz.underlying5 rfl (hp48.ext hq hp48b) (rfl)) ?_
          refine AG.takeW 11 rfl (by kernel_rfl) (by kernel_rfl) rfl rfl rfl (fun _ => Ev.move rfl rfl) ?_
          refine AG.only 12 rfl (by kernel_rfl) ?_
          refine RG.call rfl rfl rfl rfl rfl rfl rfl en_103 (mul_ret _ _ _ _ (ht12.ext hxwl41) (by exact hC64) (by exact hb64)) ?_
          rintro _ w51 ⟨rfl, hx51⟩
          replace hxwl41 := Ex.tr hxwl41 hx51
          replace hE45 := Ex.tr hE45 hx51
          have hE52 := hx51
          refine RG.done ?_
          refine QW.an (fun _ => hE52) ?_
          refine AG.takeW 13 rfl (by kernel_rfl) (by kernel_rfl) rfl rfl rfl (fun _ => Ev.xor8 rfl rfl rfl (by have := divF_lt (q := q) hdv.re k (gm (cf R (k + (dg q - 1))) (gi (cf q (dg q - 1)))) j (k + j); have := gm_lt (gm (cf R (k + (dg q - 1))) (gi (cf q (dg q - 1)))) b; omega) (by have := divF_lt (q := q) hdv.re k (gm (cf R (k + (dg q - 1))) (gi (cf q (dg q - 1)))) j (k + j); have := gm_lt (gm (cf R (k + (dg q - 1))) (gi (cf q (dg q - 1)))) b; omega)) ?_
          refine AG.idxO _ 14 rfl (by kernel_rfl) (by kernel_rfl) rfl rfl rfl rfl rfl rfl Tryz.underlying58 sz_5 encN_len ((Own.ext hvr hE45)) (hM.get (by omega)) (fun g54 hg54 hBg54 hp53b hp53 => ?_)
          refine AG.only 15 rfl (by kernel_rfl) ?_
          refine RG.stOw0 (g := g54) (_) rfl rfl rfl rfl rfl sz_5 rfl (fun _ => rfl) (Own.ext hvr hE45) hg54 (hM.get (by omega)) rfl (rfl) (fun ws56 hwws56 hown57 => ?_)
          replace hvq := Own.far (Own.ext hvq hE45) hwws56 (fun e => (Sep.symm hsep25) _ hg54 e)
          replace hxwl41 := Wr.below hxwl41 hwws56 hBg54
          refine RG.done ?_
          refine QW.an (fun h => by simp at h) ?_
          refine AG.done (by kernel_rfl) ?_
          refine QW.sub (S' := [(1, _), (4, _), (5, _), (6, _), (8, _), (9, _), (10, _), (11, _), (12, _), (13, _), (64, _), (65, _), (66, _)]) ⟨rfl, rfl, rfl, rfl, rfl, rfl, rfl, rfl, rfl, rfl, rfl, rfl, rfl, trivial⟩ ?_
          refine QW.blockN ?_
          refine QW.then_ ?_
          refine CW.region ?_
          refine RG.vl rfl rfl rfl (Ev.addI rfl rfl rfl (by omega)) ?_
          refine RG.vl rfl rfl rfl (Ev.move rfl rfl) ?_
          refine RG.done ?_
          refine QW.round2 (j + 1) (_) ⟨rfl, trivial⟩ ⟨rfl, rfl, rfl, rfl, rfl, rfl, rfl, rfl, rfl, rfl, rfl, rfl, trivial⟩ ⟨⟨by omega, div_step hM (by omega) hbb, hvq, hown57⟩, hxwl41⟩ (by omega)
        · refine CW.exit ?_
          refine QW.thenExit ?_
          refine QW.thenExit ?_
          refine QW.blockHit ?_
          refine QW.blockN ?_
          refine QW.then_ ?_
          refine CW.region ?_
          refine RG.vl rfl rfl rfl (Ev.move rfl rfl) ?_
          refine RG.vl rfl rfl rfl (Ev.subI rfl rfl rfl (by omega)) ?_
          refine RG.vl rfl rfl rfl (Ev.assign rfl rfl) ?_
          refine RG.done ?_
          refine QW.round3 (k) (D.set k (gm (cf R (k + (dg q - 1))) (gi (cf q (dg q - 1))))) (M) ⟨congrArg (fun x => some (Value.int .i64 x)) (show ((k + 1 : Nat) : Int) - 1 - 1 = (k : Int) - 1 by omega), trivial⟩ ⟨rfl, rfl, rfl, rfl, rfl, rfl, rfl, rfl, rfl, trivial⟩ ⟨⟨by omega, div_row (by omega) hqe hdv (by omega) (by have e : j = dg q := (by omega); rw [e] at hM; exact hM), hvq, hvr⟩, hxwl41⟩ (by omega)
      · refine CW.exit ?_
        refine QW.thenExit ?_
        refine QW.thenExit ?_
        refine QW.blockHit ?_
        refine QW.then_ ?_
        refine CW.seq ?_
        have hRl := hdv.rl
        refine CW.region ?_
        refine RG.vl rfl rfl rfl (Ev.move rfl rfl) ?_
        refine RG.vl rfl rfl rfl (Ev.move rfl rfl) ?_
        refine RG.call rfl rfl rfl rfl rfl rfl rfl en_101 (trimmed_ret _ _ _ ((hvr.rdl encN_len)) (by omega)) ?_
        have hpre58 := (Ex.tr hR14 hxwl30)
        rintro vt58 w58 ⟨hown_t58, hx58⟩
        have hsep59 : Sep vt58 _ := Sep.of_new (Own.ext hown3 hxwl30) (fun k h => Own.ge hown_t58 h)
        have hsep60 : Sep vt58 _ := Sep.of_new hvq (fun k h => Own.ge hown_t58 h)
        have hsep61 : Sep vt58 _ := Sep.of_new hvr (fun k h => Own.ge hown_t58 h)
        replace hxwl30 := Ex.tr hxwl30 hx58
        have hE62 := hx58
        refine RG.vl rfl rfl rfl (Ev.assign rfl rfl) ?_
        refine RG.vl rfl rfl rfl (Ev.assign rfl rfl) ?_
        refine RG.vl rfl rfl rfl (Ev.assign rfl rfl) ?_
        refine RG.done ?_
        refine QW.then_ ?_
        refine CW.ret ?_
        refine QW.ret3 rfl rfl rfl rfl ?_
        have hB := (Ex.tr hR14 hxwl30)
        have hmE : divE p q = 0 := by unfold divE; rw [if_pos he0, if_neg (by omega)]
        obtain rfl : k1 = 0 := by omega
        obtain ⟨hdv1, hdv2⟩ := div_end (by omega) hdv
        exact ⟨_, _, D, tr R, by rw [hmE], (Own.ext hvq hE62).low (by have := hR14.size; omega), hown_t58.low (by have := hpre58.size; omega), (Sep.symm hsep60), fun _ => ⟨hdv1, hdv2, tr_tr R, hdv.de, hdv.re.tr⟩, fun h => absurd hmE h, hB⟩

end Go.Proofs.YtgjnchjkjdnidaaGreat

/- append(own, make([]T, k)...): the list grows by zeros; the source of an append keeps its list. -/
namespace Go.Proofs.YtgjnchjkjdnidaaGreat
open Go.RowKit
theorem zeroCells_cells (z : Array Value) (k : Nat) (u : Value) (h : z.toList.all (·.oneCell') = true) : u ∈ (Builtin.zeroCells z k).toList → 0 < z.size → u.oneCell' = true := by
  intro hu hz
  unfold Builtin.zeroCells at hu
  rw [Array.toList_map, List.mem_map] at hu
  obtain ⟨i, _, rfl⟩ := hu
  have hlt := Nat.mod_lt i hz
  rw [getElem!_pos z (i % z.size) hlt]
  exact List.all_eq_true.1 h _ (Array.getElem_mem_toList hlt)
theorem zeroCells_one (v : Value) (k : Nat) : (Builtin.zeroCells #[v] k).toList = List.replicate k v := by
  unfold Builtin.zeroCells
  apply List.ext_getElem?
  intro i
  rw [Array.toList_map, List.getElem?_map]
  rcases Nat.lt_or_ge i k with h | h
  · rw [List.getElem?_replicate_of_lt h]
    simp [h, Nat.mod_one]
  · rw [List.getElem?_eq_none (by simpa using h), List.getElem?_eq_none (by simpa using h)]; rfl
section
variable {P : Program} (w : World)
theorem run_append_room_zeros (t tn ty e : TypeId) (i : TypeInfo) (z : Value) (kq kn : IntKind) (ht : P.underlying t = some (.slice e)) (htn : P.underlying tn = some (.int kn)) (hi : P.info? e = some i) (hz : i.zero = some z) (hzs : z.cells.size = i.size) (hz1 : z.cells.toList.all (·.oneCell') = true)
    (g n cap k : Nat) (cur : Array Value) (hg : w.heap[g]? = some (.cells cur e (0, 0))) (h0 : 0 < k) (hs : 0 < i.size) (h63 : (k : Int) ≤ 9223372036854775807) (h48 : k * i.bytes ≤ 281474976710656) (hroom : n + k ≤ cap) (hfit : n * i.size + k * i.size ≤ cur.size) :
    (Builtin.append_ #[t, tn] ty #[.slice (some ⟨g, 0, none⟩) n cap, .int kq k]).run P w =
      .ok (.slice (some ⟨g, 0, none⟩) (n + k) cap) (w.setRow g (cur.toList.take (n * i.size) ++ (Builtin.zeroCells z.cells k).toList ++ cur.toList.drop (n * i.size + k * i.size)).toArray) := by
  have hk : k ≠ 0 := by omega
  have hw : IntKind.i64.wrap (k : Int) = k := by rw [IntKind.wrap_i64]; omega
  have hl : (Builtin.zeroCells z.cells k).toList.length = k * i.size := by rw [Array.length_toList, size_zeroCells, hzs]
  have h48i : ¬ (281474976710656 < (k : Int) * (i.bytes : Int)) := by
    rw [← Int.natCast_mul]
    omega
  have hneg : ¬ ((k : Int) < 0) := by omega
  have hns : ¬ (k * i.size = 0) := Nat.mul_ne_zero hk (by omega)
  have hst := run_storeCells_at P g (n * i.size) e (Builtin.zeroCells z.cells k).toList 0 cur w hg (by rw [hl]; simpa using hfit) (fun u hu => zeroCells_cells _ _ _ hz1 hu (by omega))
  simp only [Nat.add_zero, hl] at hst
  simp [Builtin.append_, run_underlying ht, run_underlying htn, sizeOf, typeInfo, zeroValue, hi, hz, asInt, asIntOf, hw, hneg, hns, h48i, hroom, Addr.add_lit, hst]
/-- An append of zeros onto a list of the call's own. -/
theorem run_append_own_zeros (base : Nat) (t tn ty e : TypeId) (i : TypeInfo) (z : Value) (kq kn : IntKind) (ht : P.underlying t = some (.slice e)) (htn : P.underlying tn = some (.int kn)) (hi : P.info? e = some i) (hz : i.zero = some z) (hzs : z.cells.size = i.size) (hz1 : z.cells.toList.all (·.oneCell') = true) (hsz : 0 < i.size)
    (v : Value) (n k : Nat) (xs : List Value) (hown : w.ownsRow base e i.size v n xs) (h0 : 0 < k) (hn0 : 0 < n) (h63 : n + k ≤ maxLen) (hbytes : (n + k) * i.bytes ≤ 140737488355328) (hbase : base ≤ w.heap.size) :
    ∃ v' w', (Builtin.append_ #[t, tn] ty #[v, .int kq k]).run P w = .ok v' w' ∧ w'.ownsRow base e i.size v' (n + k) (xs ++ (Builtin.zeroCells z.cells k).toList) ∧ w.grownBy w' v.ownBlock ∧ (v'.ownBlock = v.ownBlock ∨ v'.ownBlock = some w.heap.size) := by
  have hl : (Builtin.zeroCells z.cells k).toList.length = k * i.size := by rw [Array.length_toList, size_zeroCells, hzs]
  have hlen : (xs ++ (Builtin.zeroCells z.cells k).toList).length = (n + k) * i.size := by rw [List.length_append, hown.1, hl, Nat.add_mul]
  have hkb : k * i.bytes ≤ 281474976710656 := by rw [Nat.add_mul] at hbytes; omega
  rcases hown.2 with ⟨rfl, h⟩ | ⟨g, cap, cur, rfl, hbg, hg, hnc, hcm, hcs, htake⟩
  · omega
  · by_cases hroom : n + k ≤ cap
    · have hfit : n * i.size + k * i.size ≤ cur.size := by rw [hcs, ← Nat.add_mul]; exact Nat.mul_le_mul_right _ hroom
      refine ⟨_, _, run_append_room_zeros w t tn ty e i z kq kn ht htn hi hz hzs hz1 g n cap k cur hg h0 hsz (by simp only [maxLen] at h63; omega) hkb hroom hfit, ⟨hlen, .inr ⟨g, cap, _, rfl, hbg, setRow_heap w g cur _ e _ hg, hroom, hcm, ?_, ?_⟩⟩, ⟨rfl, rfl, rfl, by simp, fun k _ hk => setRow_other w g k _ (fun e => hk (by simp [Value.ownBlock, e]))⟩, .inl rfl⟩
      · simp only [List.size_toArray, List.length_append, List.length_take, List.length_drop, Array.length_toList, hl] at hfit ⊢
        omega
      · rw [htake, ← hlen]
        exact List.take_left
    · have holds : ∀ j u, xs[j]? = some u → w.drew.cell? ((⟨g, 0, none⟩ : Addr).add j) = some u := hown.cells (g := g) rfl
      have hold := run_firstCells_some (P := P) w.drew i.size n ⟨g, 0, none⟩ n cap xs hown.1 holds
      have hge := grownCap_ge w (n + k) cap e
      refine ⟨_, _, Lib.run_append_grow_zeros w t tn ty e i z kq kn ht htn hi hz (some ⟨g, 0, none⟩) n cap xs hold k h0 hsz (by omega) (by simp only [maxLen] at h63; omega) hkb (growslice_fits (by omega) hbytes), ⟨hlen, .inr ⟨w.heap.size, _, _, rfl, hbase, heap_alloc_new w.drew _, hge, grownCap_le_maxLen w _ _ e h63, ?_, ?_⟩⟩, ⟨rfl, rfl, rfl, by simp, fun k hk _ => heap_alloc_old w.drew _ hk⟩, .inr rfl⟩
      · simp only [Array.size_append, List.size_toArray, size_zeroCells, hzs, hown.1, ← Nat.add_mul]
        congr 1
        omega
      · simp only [Array.toList_append, List.append_assoc]
        rw [← List.append_assoc, ← hlen]
        exact List.take_left
end
section
variable {P : Program} {ops : Array Oper} {Q : Exit → Act → World → Prop} {n : Nat} {l : List Oper} {S : Slots} {w w' : World} {o : Oper} {d g : Nat}
theorem RG.appZ {α : Type} {T tn e by_ base k : Nat} {kq kn : IntKind} {enc : α → List Value} (a : α) {z v : Value} {x y : Operand} {c : Call} {xs : List α} (hw : wantS ops S o = some true) (hd : o.dst = some d) (hdn : Nat.blt d n = true) (ho : o.op = .call c) (hc : c = { callee := .builtin .append, args := #[x, y], argTypes := #[T, tn] })
    (hx : ev S x = some v) (hy : ev S y = some (.int kq k)) (ht : P.underlying T = some (.slice e)) (htn : P.underlying tn = some (.int kn)) (hi : (P.info? e).map (fun i => (i.zero, i.size, i.bytes)) = some (some z, 1, by_)) (hz : z.cells = #[z]) (hz1 : z.oneCell' = true) (he : enc a = [z])
    (hown : Own w base e 1 enc v xs) (h0 : 0 < k) (hn0 : 0 < xs.length) (hlen : xs.length + k ≤ maxLen) (hby : (xs.length + k) * by_ ≤ 140737488355328) (hbase : base ≤ w.heap.size)
    (kk : ∀ v' w', Own w' base e 1 enc v' (xs ++ List.replicate k a) → w.grownBy w' v.ownBlock → (v'.ownBlock = v.ownBlock ∨ v'.ownBlock = some w.heap.size) → RG P ops Q n l ((d, v') :: S) w') : RG P ops Q n (o :: l) S w := by
  obtain ⟨i, hii, hz0, hz1', hz2⟩ := info_parts hi
  subst hz2
  have hown' : w.ownsRow base e i.size v xs.length (xs.flatMap enc) := by rw [hz1']; exact hown
  obtain ⟨v', w', hr, h2, h3, h4⟩ := run_append_own_zeros (P := P) w base T tn o.type e i z kq kn ht htn hii hz0 (by rw [hz, hz1']; rfl) (by rw [hz]; simp [hz1]) (by omega) v xs.length k (xs.flatMap enc) hown' h0 hn0 hlen hby hbase
  refine RG.run (w' := w') hw hd hdn (fun a ha => ?_) (kk v' w' ?_ h3 h4)
  · simp only [execOp, ho, hc]
    simp [resolve, invoke, builtin, ha.eval hx, ha.eval hy, hr]
  · rw [hz, zeroCells_one, hz1'] at h2
    have e2 : (xs ++ List.replicate k a).flatMap enc = xs.flatMap enc ++ List.replicate k z := by
      rw [List.flatMap_append]
      congr 1
      clear hown hown' h2 hlen hby hr h0 hy kk
      induction k with
      | zero => rfl
      | succ k ih =>
        show enc a ++ (List.replicate k a).flatMap enc = z :: List.replicate k z
        rw [he, ih]; rfl
    unfold Own
    rw [e2, List.length_append, List.length_replicate]; exact h2
end
section
variable {P : Program} {n : Nat} {S : Slots} {w : World} {o : Oper}
theorem Ev.eqNil {T T' e : TypeId} {x y : Operand} {A : Option Addr} {m c : Nat} (ho : o.op = .binOp .eql T x y T') (hx : ev S x = some (.slice A m c)) (hy : ev S y = some (.slice none 0 0)) (ht : P.underlying T = some (.slice e)) : Ev P n o S w (.bool A.isNone) := fun a ha => by
  simp only [execOp, ho]; rw [ha.eval hx, ha.eval hy]
  have h := run_equal_slice_nil (P := P) w T e A m c ht
  have e : eqGuard .eql T x y (.slice A m c) (.slice none 0 0) = pure () := rfl
  simp [e, binOp, h]
theorem RdL.of_none {α : Type} {sz m c : Nat} {enc : α → List Value} {l : List α} (h : RdL w sz enc (.slice none m c) l) : l = [] := by
  obtain ⟨A, c, e, _, _, h3⟩ := h
  rcases Nat.eq_zero_or_pos l.length with h0 | h0
  · exact List.eq_nil_of_length_eq_zero h0
  · obtain ⟨ad, rfl, _⟩ := h3 h0
    cases e
end
end Go.Proofs.YtgjnchjkjdnidaaGreat

/- Chapter 19: words, syndromes, encoding, as plain functions; the field's functions at elements. -/
namespace Go.Proofs.YtgjnchjkjdnidaaGreat
open Go.RowKit
abbrev encZ (x : Nat) : List Value := [.int .i64 (x : Int)]
theorem encZ_len (x : Nat) : (encZ x).length = 1 := rfl
theorem errL_els {p : List Nat} (h : p.length ≤ 128) (he : El p) : errL [p] = 0 := errL_ok (by simpa using h) (by simpa using he)
theorem errL_els2 {p q : List Nat} (h : p.length ≤ 128) (he : El p) (h' : q.length ≤ 128) (he' : El q) : errL [p, q] = 0 := errL_ok (by simpa using ⟨h, h'⟩) (by simpa using ⟨he, he'⟩)
theorem el1 {a : Nat} (h : a < 64) : El [a] := El.cons_ h El.nil_
section
variable (u v : Value) (p q : List Nat) (w : World)
theorem Eval_el (x : Nat) (hl : RdL w 1 encN u p) (h : p.length ≤ 128) (he : El p) (hx : x < 64) : Ret Tryz.prog 109 [u, .int .u8 (x : Int)] w (fun v w' => v = .tuple #[.int .u8 (evl p x : Int), .int .i64 0] ∧ Ex w w') := by
  have e0 : errL [p, [x]] = 0 := errL_els2 h he (by simp) (el1 hx)
  exact (Eval_ret u p x w hl (by omega)).mono fun v w' ⟨e, hx⟩ => ⟨by rw [e, e0, if_pos rfl], hx⟩
theorem Mul_el (a b : Nat) (ha : a < 64) (hb : b < 64) : Ret Tryz.prog 128 [.int .u8 (a : Int), .int .u8 (b : Int)] w (fun v w' => v = .tuple #[.int .u8 (gm a b : Int), .int .i64 0] ∧ Ex w w') := by
  have e0 : errL [[a, b]] = 0 := errL_els (by simp) (El.cons_ ha (el1 hb))
  exact (Mul_ret a b w).mono fun v w' ⟨e, hx⟩ => ⟨by rw [e, e0, if_pos rfl], hx⟩
theorem pwr_inv (a : Nat) (h0 : a ≠ 0) (h : a < 64) : pwr a (-1) = gi a := by
  have key : (List.range 64).all (fun a => Nat.beq a 0 || Nat.beq (pwr a (-1)) (gi a)) = true := by decide +kernel
  have := all1 key a h
  rw [Bool.or_eq_true] at this
  rcases this with h1 | h1
  · exact absurd (Nat.eq_of_beq_eq_true h1) h0
  · exact Nat.eq_of_beq_eq_true h1
theorem Inv_el (a : Nat) (h0 : a ≠ 0) (ha : a < 64) : Ret Tryz.prog 127 [.int .u8 (a : Int)] w (fun v w' => v = .tuple #[.int .u8 (gi a : Int), .int .i64 0] ∧ Ex w w') := by
  have e0 : errL [[a]] = 0 := errL_els (by simp) (el1 ha)
  exact (Inv_ret a w).mono fun v w' ⟨e, hx⟩ => ⟨by rw [e, e0, if_pos rfl, pwr_inv a h0 ha]; unfold pwE; rw [if_pos e0, if_neg (fun h => h0 h.1)], hx⟩
theorem pwr_two (n : Nat) : pwr 2 (n : Int) = pw (n % 63) := by
  have h63 : ((n : Int) % 63).toNat = n % 63 := by omega
  unfold pwr
  split
  · rename_i h
    have : n = 0 := by omega
    subst this; decide +kernel
  · rw [if_neg (by decide), h63, show lg 2 = 1 by decide +kernel, Nat.one_mul, Nat.mod_mod]
theorem Pow_el (n : Nat) : Ret Tryz.prog 112 [.int .u8 2, .int .i64 (n : Int)] w (fun v w' => v = .tuple #[.int .u8 (pw (n % 63) : Int), .int .i64 0] ∧ Ex w w') := by
  have e0 : errL [[2]] = 0 := errL_els (by simp) (el1 (by omega))
  exact (pow_ret 2 n w).mono fun v w' ⟨e, hx⟩ => ⟨by rw [e, e0, if_pos rfl, pwr_two]; unfold pwE; rw [if_pos e0, if_neg (fun h => absurd h.1 (by decide))], hx⟩
theorem Divide_el (hl : RdL w 1 encN u p) (hm : RdL w 1 encN v q) (h : p.length ≤ 128) (he : El p) (h' : q.length ≤ 128) (he' : El q) (hd : 0 < dg q) : Ret Tryz.prog 60 [u, v] w (fun v w' => ∃ r1 r2 d r, v = .tuple #[r1, r2, .int .i64 0] ∧ Own w' w.heap.size 5 1 encN r1 d ∧ Own w' w.heap.size 5 1 encN r2 r ∧ Sep r1 r2 ∧ (IsDiv p q d r ∧ tr d = d ∧ tr r = r ∧ El d ∧ El r) ∧ Ex w w') := by
  have e0 : divE p q = 0 := by unfold divE; rw [if_pos (errL_els2 h he h' he'), if_neg (by omega)]
  exact (divide_ret u v p q w hl hm (by omega) (by omega)).mono fun v w' ⟨r1, r2, d, r, e, h1, h2, h3, h4, _, hx⟩ => ⟨r1, r2, d, r, by rw [e, e0], h1, h2, h3, h4 e0, hx⟩
end
/-! words -/
def areE (l : List Nat) : Bool := l.all fun a => decide (a < 64)
theorem areE_el {l : List Nat} : areE l = true ↔ El l := by unfold areE; rw [List.all_eq_true]; exact ⟨fun h a ha => of_decide_eq_true (h a ha), fun h a ha => decide_eq_true (h a ha)⟩
theorem areE_no {l : List Nat} {i a : Nat} (h : l[i]? = some a) (ha : 64 ≤ a) : areE l = false := by
  unfold areE; rw [List.all_eq_false]; exact ⟨a, List.mem_of_getElem? h, by simpa using ha⟩
theorem areE_yes {l : List Nat} (h : ∀ j a, j < l.length → l[j]? = some a → a < 64) : areE l = true := by
  rw [areE_el]; intro a ha
  obtain ⟨j, hj⟩ := List.mem_iff_getElem?.1 ha
  exact h j a (List.getElem?_eq_some_iff.1 hj).1 hj
def isW (l : List Nat) : Bool := decide (4 < l.length) && decide (l.length ≤ 63) && areE l
theorem isW_iff {l : List Nat} : isW l = true ↔ 4 < l.length ∧ l.length ≤ 63 ∧ El l := by
  unfold isW; rw [Bool.and_eq_true, Bool.and_eq_true, decide_eq_true_eq, decide_eq_true_eq, areE_el, and_assoc]
/-- A word's values at 2, 4, 8, 16. -/
def sy (l : List Nat) (r : Nat) : Nat := evl l.reverse (pw (r + 1))
def syL (l : List Nat) : List Nat := [sy l 0, sy l 1, sy l 2, sy l 3]
theorem El.rev {l : List Nat} (h : El l) : El l.reverse := fun a ha => h a (List.mem_reverse.1 ha)
theorem sy_lt {l : List Nat} (h : El l) (r : Nat) : sy l r < 64 := evl_lt _ _ h.rev
abbrev encs4 (l : List Nat) : List Value := l.map fun (n : Nat) => Value.int .u8 (n : Int)
def syC (l : List Nat) (i : Nat) : List Value := (List.range 4).map fun k => .int .u8 ((if k < i then sy l k else 0 : Nat) : Int)
theorem syC_zero (l : List Nat) : List.replicate 4 (Value.int .u8 0) = syC l 0 := by simp [syC, List.range_succ]
theorem syC_four (l : List Nat) : syC l 4 = (syL l).map fun (n : Nat) => Value.int .u8 (n : Int) := by simp [syC, syL, List.range_succ]
theorem syC_len (l : List Nat) (i : Nat) : (syC l i).length = 4 := by simp [syC]
theorem syC_set (l : List Nat) (i : Nat) (h : i < 4) : (syC l i).set (i * 1) (.int .u8 (sy l i : Int)) = syC l (i + 1) := by
  rw [Nat.mul_one]
  match i, h with
  | 0, _ => simp [syC, List.range_succ]
  | 1, _ => simp [syC, List.range_succ]
  | 2, _ => simp [syC, List.range_succ]
  | 3, _ => simp [syC, List.range_succ]
theorem two_shl (i : Nat) (h : i < 4) : 2 <<< i = pw (i + 1) ∧ 2 <<< i < 64 := by
  match i, h with
  | 0, _ => decide +kernel
  | 1, _ => decide +kernel
  | 2, _ => decide +kernel
  | 3, _ => decide +kernel
/-! a list turned in place -/
def rvS (l : List Nat) (i : Nat) : List Nat := (List.range l.length).map fun k => if k < i ∨ l.length - 1 - k < i then cf l (l.length - 1 - k) else cf l k
theorem rvS_len (l : List Nat) (i : Nat) : (rvS l i).length = l.length := by simp [rvS]
theorem rvS_at {l : List Nat} {i k : Nat} (h : k < l.length) : (rvS l i)[k]? = some (if k < i ∨ l.length - 1 - k < i then cf l (l.length - 1 - k) else cf l k) := by
  unfold rvS; rw [List.getElem?_map, List.getElem?_range h]; rfl
theorem rvS_zero (l : List Nat) : rvS l 0 = l := by
  apply List.ext_getElem?
  intro k
  rcases Nat.lt_or_ge k l.length with h | h
  · rw [rvS_at h, if_neg (by omega), getElem?_cf h]
  · rw [List.getElem?_eq_none (by rw [rvS_len]; exact h), List.getElem?_eq_none h]
theorem rvS_end {l : List Nat} {i : Nat} (h : l.length ≤ 2 * i + 1) : rvS l i = l.reverse := by
  apply List.ext_getElem?
  intro k
  rcases Nat.lt_or_ge k l.length with hk | hk
  · rw [rvS_at hk, List.getElem?_reverse hk, getElem?_cf (by omega)]
    by_cases e : k < i ∨ l.length - 1 - k < i
    · rw [if_pos e]
    · rw [if_neg e]; congr 2; omega
  · rw [List.getElem?_eq_none (by rw [rvS_len]; exact hk), List.getElem?_eq_none (by simpa using hk)]
theorem rvS_step {l : List Nat} {i : Nat} (h : 2 * i + 1 < l.length) : ((rvS l i).set i (cf l (l.length - 1 - i))).set (l.length - 1 - i) (cf l i) = rvS l (i + 1) := by
  apply List.ext_getElem?
  intro k
  rcases Nat.lt_or_ge k l.length with hk | hk
  · rw [List.getElem?_set, List.length_set, rvS_len, List.getElem?_set, rvS_len, rvS_at hk, rvS_at hk]
    by_cases e1 : l.length - 1 - i = k
    · rw [if_pos e1, if_pos (by omega), if_pos (by omega), show l.length - 1 - k = i by omega]
    · rw [if_neg e1]
      by_cases e2 : i = k
      · rw [if_pos e2, if_pos (by omega), if_pos (by omega), e2]
      · rw [if_neg e2]
        congr 1
        by_cases e3 : k < i ∨ l.length - 1 - k < i
        · rw [if_pos e3, if_pos (by omega)]
        · rw [if_neg e3, if_neg (by omega)]
  · rw [List.getElem?_eq_none (by rw [List.length_set, List.length_set, rvS_len]; exact hk), List.getElem?_eq_none (by rw [rvS_len]; exact hk)]
/-! encoding -/
def gen5 : List Nat := [48, 17, 29, 30, 1]
structure IsEnc (data c : List Nat) : Prop where
  len : c.length = data.length + 4
  el : El c
  pre : c.take data.length = data
  syn : ∀ r, r < 4 → sy c r = 0
def stE (data r : List Nat) (i : Nat) : List Nat := data ++ (List.range 4).map fun j => if 3 - j < i then cf r (3 - j) else 0
theorem stE_len (data r : List Nat) (i : Nat) : (stE data r i).length = data.length + 4 := by simp [stE]
theorem stE_zero (data r : List Nat) : data ++ List.replicate 4 0 = stE data r 0 := by simp [stE, List.range_succ]
theorem stE_set {data r : List Nat} {i a : Nat} (h : i < 4) (ha : r[i]? = some a) : (stE data r i).set (data.length + 4 - 1 - i) a = stE data r (i + 1) := by
  have hc := cf_some ha
  subst hc
  unfold stE
  rw [List.set_append_right _ _ (by omega)]
  congr 1
  match i, h with
  | 0, _ => rw [show data.length + 4 - 1 - 0 - data.length = 3 by omega]; simp [List.range_succ]
  | 1, _ => rw [show data.length + 4 - 1 - 1 - data.length = 2 by omega]; simp [List.range_succ]
  | 2, _ => rw [show data.length + 4 - 1 - 2 - data.length = 1 by omega]; simp [List.range_succ]
  | 3, _ => rw [show data.length + 4 - 1 - 3 - data.length = 0 by omega]; simp [List.range_succ]
theorem gen5_el : El gen5 := fun a h => by simp [gen5] at h; omega
theorem gen5_dg : dg gen5 = 5 := by decide +kernel
theorem gen5_z (r : Nat) (h : r < 4) : evl gen5 (pw (r + 1)) = 0 := by
  match r, h with
  | 0, _ => decide +kernel
  | 1, _ => decide +kernel
  | 2, _ => decide +kernel
  | 3, _ => decide +kernel
theorem enc_end {data d r : List Nat} (hd : El data) (hq : El d) (hr : El r) (h : IsDiv (data ++ List.replicate 4 0).reverse gen5 d r) (ht : tr r = r) : r.length ≤ 4 ∧ IsEnc data (stE data r r.length) := by
  have hdr : dg r = r.length := dg_of_tr ht
  have hlt := h.lt
  rw [gen5_dg] at hlt
  have hc : ∀ j, (if 3 - j < r.length then cf r (3 - j) else 0) = cf r (3 - j) := fun j => by
    split
    · rfl
    · exact (cf_none (by omega)).symm
  have he : stE data r r.length = data ++ [cf r 3, cf r 2, cf r 1, cf r 0] := by
    unfold stE
    simp only [hc]
    simp [List.range_succ]
  have hel : El [cf r 3, cf r 2, cf r 1, cf r 0] := El.cons_ (hr.cf 3) (El.cons_ (hr.cf 2) (El.cons_ (hr.cf 1) (el1 (hr.cf 0))))
  refine ⟨by omega, stE_len _ _ _, by rw [he]; exact hd.app hel, by rw [he, List.take_left], fun k hk => ?_⟩
  have hk64 := (pw_lt (k + 1) (by omega)).2
  have hp : El (data ++ List.replicate 4 0).reverse := (hd.app fun a ha => by rw [List.eq_of_mem_replicate ha]; decide).rev
  have e : ∀ j, cf (stE data r r.length).reverse j = cf (pm d gen5) j := fun j => by
    have h1 : cf (stE data r r.length).reverse j = cf (data ++ List.replicate 4 0).reverse j ^^^ cf r j := by
      rw [he, List.reverse_append, List.reverse_append]
      show cf ([cf r 0, cf r 1, cf r 2, cf r 3] ++ data.reverse) j = cf ([0, 0, 0, 0] ++ data.reverse) j ^^^ _
      rw [cf_app, cf_app]
      by_cases hj : j < 4
      · rw [if_pos (by simpa using hj), if_pos (by simpa using hj)]
        match j, hj with
        | 0, _ => simp [cf_z]
        | 1, _ => simp [cf_s, cf_z]
        | 2, _ => simp [cf_s, cf_z]
        | 3, _ => simp [cf_s, cf_z]
      · rw [if_neg (by simpa using hj), if_neg (by simpa using hj), cf_none (p := r) (k := j) (by omega), Nat.xor_zero]; rfl
    rw [h1, h.eq j, Nat.xor_assoc, Nat.xor_self, Nat.xor_zero]
  unfold sy
  rw [evl_congr _ e, evl_pm _ hk64 _ _ hq gen5_el, gen5_z k hk, gm_zr]
end Go.Proofs.YtgjnchjkjdnidaaGreat

/- Plain: reading. -/
namespace Go.Proofs.YtgjnchjkjdnidaaGreat
open Go.RowKit
def part (t : List UInt8) (k : Nat) : List UInt8 := (t.take (3 * k + 3)).drop (3 * k)
def unc (t : List UInt8) (k : Nat) : Bool := decide (0 ≤ Lib.indexByte (part t k) 63)
def num (c : UInt8) : Nat := (Lib.indexByte s4 c).toNat
def accN (l : List UInt8) : Nat := l.foldl (fun s c => s * 4 + num c) 0
def symB (t : List UInt8) (k : Nat) : UInt8 := if unc t k then 0 else UInt8.ofNat (accN (part t k))
def symsL (t : List UInt8) (n : Nat) : List UInt8 := (List.range n).map (symB t)
def erasL (t : List UInt8) (n : Nat) : List Nat := (List.range n).filter (unc t)
def readB (t : List UInt8) : List UInt8 × List Nat × Int := if errB 0 t = 0 then (if t.length % 3 = 0 then (symsL t (t.length / 3), erasL t (t.length / 3), 0) else ([], [], 2)) else ([], [], errB 0 t)
theorem read_err {t : List UInt8} (h : ¬ errB 0 t = 0) : readB t = ([], [], errB 0 t) := by unfold readB; rw [if_neg h]
theorem read_len {t : List UInt8} (h : errB 0 t = 0) (h3 : ¬ t.length % 3 = 0) : readB t = ([], [], 2) := by unfold readB; rw [if_pos h, if_neg h3]
theorem read_ok {t : List UInt8} (h : errB 0 t = 0) (h3 : t.length % 3 = 0) : readB t = (symsL t (t.length / 3), erasL t (t.length / 3), 0) := by unfold readB; rw [if_pos h, if_pos h3]
theorem syms_len (t : List UInt8) (n : Nat) : (symsL t n).length = n := by simp [symsL]
theorem eras_len (t : List UInt8) (n : Nat) : (erasL t n).length ≤ n := by have := List.length_filter_le (unc t) (List.range n); simpa [erasL] using this
theorem syms_more (t : List UInt8) (n : Nat) : symsL t (n + 1) = symsL t n ++ [symB t n] := by unfold symsL; rw [List.range_succ, List.map_append]; rfl
theorem eras_yes {t : List UInt8} {n : Nat} (h : unc t n = true) : erasL t (n + 1) = erasL t n ++ [n] := by unfold erasL; rw [List.range_succ, List.filter_append]; simp [h]
theorem eras_no {t : List UInt8} {n : Nat} (h : unc t n = false) : erasL t (n + 1) = erasL t n := by unfold erasL; rw [List.range_succ, List.filter_append]; simp [h]
theorem part_len {t : List UInt8} {k : Nat} (h : 3 * k + 3 ≤ t.length) : (part t k).length = 3 := by unfold part; rw [List.length_drop, List.length_take]; omega
theorem part_mem {t : List UInt8} {k : Nat} {c : UInt8} (h : c ∈ part t k) : c ∈ t := List.mem_of_mem_take (List.mem_of_mem_drop h)
/-- A letter that is clear has its number. -/
theorem num_of {c : UInt8} (h : isL c = true) (h2 : c ≠ 63) : Lib.indexByte s4 c = (num c : Int) ∧ num c ≤ 3 := by
  have hc := of_decide_eq_true h
  have h63 : c.toNat ≠ 63 := fun e => h2 (UInt8.toNat_inj.1 e)
  have key : c = 84 ∨ c = 65 ∨ c = 68 ∨ c = 70 := by
    rcases hc with h | h | h | h | h
    · exact .inl (UInt8.toNat_inj.1 h)
    · exact .inr (.inl (UInt8.toNat_inj.1 h))
    · exact .inr (.inr (.inl (UInt8.toNat_inj.1 h)))
    · exact .inr (.inr (.inr (UInt8.toNat_inj.1 h)))
    · exact absurd h h63
  rcases key with rfl | rfl | rfl | rfl <;> exact ⟨by decide +kernel, by decide +kernel⟩
theorem acc_more {l : List UInt8} {j : Nat} {c : UInt8} (h : l[j]? = some c) : accN (l.take (j + 1)) = accN (l.take j) * 4 + num c := by
  rw [List.take_add_one, h, Option.toList_some]
  unfold accN
  rw [List.foldl_append]; rfl
theorem no_unc {t : List UInt8} {k : Nat} (h : ¬ 0 ≤ Lib.indexByte (part t k) 63) : unc t k = false ∧ ∀ c ∈ part t k, c ≠ 63 := by
  refine ⟨decide_eq_false h, fun c hc e => ?_⟩
  subst e
  have hge := Lib.indexByte_ge (part t k) 63
  obtain ⟨i, hi⟩ := List.mem_iff_getElem?.1 hc
  exact Lib.indexByte_none (by omega) i hi
theorem sym_unc {t : List UInt8} {k : Nat} (h : 0 ≤ Lib.indexByte (part t k) 63) : unc t k = true ∧ symB t k = 0 := by
  have : unc t k = true := decide_eq_true h
  exact ⟨this, by unfold symB; rw [this]; rfl⟩
theorem sym_clear {t : List UInt8} {k : Nat} (h : unc t k = false) : symB t k = UInt8.ofNat (accN (part t k)) := by unfold symB; rw [h]; rfl
end Go.Proofs.YtgjnchjkjdnidaaGreat

/- Walks (BG). Written by program. -/
namespace Go.Proofs.YtgjnchjkjdnidaaGreat
open Go.RowKit
set_option maxRecDepth 100000 in
set_option maxHeartbeats 4000000 in
theorem bread_ret (t : List UInt8) (w : World)  :
    Ret Tryz.prog 30 [.string ⟨t.toArray⟩] w (fun v w' => ∃ r e, v = .tuple #[r, e, .int .i64 (readB t).2.2] ∧ Own w' w.heap.size 5 1 encB r (readB t).1 ∧ Own w' w.heap.size 3 1 encZ e (readB t).2.1 ∧ Ex w w') := by
  have hts := sb_len t
  have hB0 : Ex w w := Ex.rfl_ _
  refine Ret.of Tryz.func30 rfl Tryz.ntmps30 rfl ?_
  refine CW.seq ?_
  refine CW.region ?_
  refine RG.vl rfl rfl rfl (Ev.assign rfl rfl) ?_
  refine RG.vl rfl rfl rfl (Ev.assign rfl rfl) ?_
  refine RG.vl rfl rfl rfl (Ev.assign rfl rfl) ?_
  refine RG.done ?_
  refine QW.then_ ?_
  refine CW.seq ?_
  refine CW.seq ?_
  refine CW.region ?_
  refine RG.vl rfl rfl rfl (Ev.move rfl rfl) ?_
  refine RG.call rfl rfl rfl rfl rfl rfl rfl en_43 (bcheck_ret _ 0 _ (by omega)) ?_
  rintro _ w1 ⟨rfl, hx1⟩
  have hE2 := hx1
  refine RG.vl rfl rfl rfl (Ev.assign rfl rfl) ?_
  refine RG.done ?_
  refine QW.then_ ?_
  refine CW.seq ?_
  refine CW.region ?_
  refine RG.vl rfl rfl rfl (Ev.move rfl rfl) ?_
  refine RG.vl rfl rfl rfl (Ev.neI rfl rfl rfl) ?_
  refine RG.done ?_
  refine QW.then_ ?_
  refine CW.condP rfl (fun hc3 => ?_) (fun hc3 => ?_)
  · refine CW.seq ?_
    refine CW.region ?_
    refine RG.vl rfl rfl rfl (Ev.move rfl rfl) ?_
    refine RG.vl rfl rfl rfl (Ev.assign rfl rfl) ?_
    refine RG.vl rfl rfl rfl (Ev.assign rfl rfl) ?_
    refine RG.vl rfl rfl rfl (Ev.assign rfl rfl) ?_
    refine RG.done ?_
    refine QW.then_ ?_
    refine CW.ret ?_
    refine QW.thenRet ?_
    refine QW.ret3 rfl rfl rfl rfl ?_
    have hB := (Ex.tr hB0 hE2)
    exact ⟨_, _, by rw [read_err (by assumption)], by rw [read_err (by assumption)]; exact Own.nil_ _ _ _ _ _, by rw [read_err (by assumption)]; exact Own.nil_ _ _ _ _ _, hB⟩
  · refine CW.skip ?_
    refine QW.then_ ?_
    refine CW.seq ?_
    refine CW.seq ?_
    have he0 := Decidable.not_not.1 (show ¬ ¬ errB 0 t = 0 from by assumption)
    have hok := err_ok he0
    have halo := all_lo hok.2
    refine CW.region ?_
    refine RG.vl rfl rfl rfl (Ev.move rfl rfl) ?_
    refine RG.vl rfl rfl rfl (Ev.lenStr rfl rfl rfl Tryz.underlying9) ?_
    refine RG.vl rfl rfl rfl (Ev.remI rfl rfl rfl (by omega)) ?_
    refine RG.vl rfl rfl rfl (Ev.neI rfl rfl rfl) ?_
    refine RG.done ?_
    refine QW.then_ ?_
    refine CW.condP rfl (fun hc4 => ?_) (fun hc4 => ?_)
    · refine CW.seq ?_
      refine CW.region ?_
      refine RG.vl rfl rfl rfl (Ev.assign rfl rfl) ?_
      refine RG.vl rfl rfl rfl (Ev.assign rfl rfl) ?_
      refine RG.vl rfl rfl rfl (Ev.assign rfl rfl) ?_
      refine RG.done ?_
      refine QW.sub (S' := [(0, _), (2, _), (3, _), (4, _)]) ⟨rfl, rfl, rfl, rfl, trivial⟩ ?_
      refine QW.then_ ?_
      refine CW.ret ?_
      refine QW.thenRet ?_
      refine QW.ret3 rfl rfl rfl rfl ?_
      have hB := (Ex.tr hB0 hE2)
      exact ⟨_, _, by rw [read_len he0 (by omega)], by rw [read_len he0 (by omega)]; exact Own.nil_ _ _ _ _ _, by rw [read_len he0 (by omega)]; exact Own.nil_ _ _ _ _ _, hB⟩
    · refine CW.skip ?_
      refine QW.then_ ?_
      refine CW.seq ?_
      refine CW.region ?_
      refine RG.vl rfl rfl rfl (Ev.assign rfl rfl) ?_
      refine RG.done ?_
      refine QW.then_ ?_
      refine CW.seq ?_
      refine CW.region ?_
      refine RG.vl rfl rfl rfl (Ev.assign rfl rfl) ?_
      refine RG.done ?_
      refine QW.sub (S' := [(0, _), (2, _), (3, _), (4, _), (6, _), (7, _)]) ⟨rfl, rfl, rfl, rfl, rfl, rfl, trivial⟩ ?_
      refine QW.then_ ?_
      refine CW.seq ?_
      refine CW.seq ?_
      refine CW.region ?_
      refine RG.vl rfl rfl rfl (Ev.assign rfl rfl) ?_
      refine RG.done ?_
      refine QW.then_ ?_
      refine CW.block ?_
      have hR5 := (Ex.tr hB0 hE2)
      refine CW.loop3 [(0, _), (2, _), (3, _), (4, _)] ⟨rfl, rfl, rfl, rfl, trivial⟩ (fun (k : Nat) (u : Value) (x : Value) => [(8, .int .i64 ((3 * k : Nat) : Int)), (6, u), (7, x)]) (fun k u x w' => (3 * k ≤ t.length ∧ Own w' w1.heap.size 5 1 encB u (symsL t k) ∧ Own w' w1.heap.size 3 1 encZ x (erasL t k) ∧ Sep u x) ∧ Ex w1 w') (fun k u x => t.length - 3 * k) (0) (.slice none 0 0) (.slice none 0 0) ⟨rfl, rfl, rfl, trivial⟩ ⟨⟨by omega, Own.nil_ _ _ _ _ _, Own.nil_ _ _ _ _ _, Sep.nil_ _⟩, (Ex.rfl_ _)⟩ ?_
      rintro k u x wl6 ⟨⟨hk, hou, hox, hsp⟩, hxwl6⟩
      refine CW.sub (S' := [(8, _), (6, _), (7, _), (0, _), (2, _), (3, _), (4, _)]) ⟨rfl, rfl, rfl, rfl, rfl, rfl, rfl, trivial⟩ ?_
      refine CW.seq ?_
      refine CW.seq ?_
      refine CW.region ?_
      refine RG.vl rfl rfl rfl (Ev.move rfl rfl) ?_
      refine RG.vl rfl rfl rfl (Ev.move rfl rfl) ?_
      refine RG.vl rfl rfl rfl (Ev.lenStr rfl rfl rfl Tryz.underlying9) ?_
      refine RG.vl rfl rfl rfl (Ev.lss rfl rfl rfl) ?_
      refine RG.done ?_
      refine QW.then_ ?_
      refine CW.condP rfl (fun hc7 => ?_) (fun hc7 => ?_)
      · refine CW.skip ?_
        refine QW.then_ ?_
        refine CW.seq ?_
        refine CW.block ?_
        refine CW.seq ?_
        have hpl := part_len (t := t) (k := k) (by omega)
        have hps := sb_len (part t k)
        have hsl := syms_len t k
        refine CW.region ?_
        refine RG.vl rfl rfl rfl (Ev.move rfl rfl) ?_
        refine RG.vl rfl rfl rfl (Ev.move rfl rfl) ?_
        refine RG.vl rfl rfl rfl (Ev.move rfl rfl) ?_
        refine RG.vl rfl rfl rfl ((Ev.addI rfl rfl rfl (by omega)).conv (congrArg (Value.int .i64) (show ((3 * k : Nat) : Int) + 3 = ((3 * k + 3 : Nat) : Int) by omega))) ?_
        refine RG.vl rfl rfl rfl ((Ev.cutStr (i := 3 * k) (j := 3 * k + 3) rfl rfl Tryz.underlying9 rfl rfl (by omega) (by omega)).conv (congrArg Value.string (bx_cut t (3 * k) (3 * k + 3)))) ?_
        refine RG.vl rfl rfl rfl (Ev.assign rfl rfl) ?_
        refine RG.done ?_
        refine QW.then_ ?_
        refine CW.seq ?_
        refine CW.region ?_
        refine RG.vl rfl rfl rfl (Ev.assign rfl rfl) ?_
        refine RG.done ?_
        refine QW.then_ ?_
        refine CW.seq ?_
        refine CW.seq ?_
        refine CW.region ?_
        refine RG.vl rfl rfl rfl (Ev.move rfl rfl) ?_
        refine RG.call rfl rfl rfl rfl rfl rfl rfl en_64 (con_ret (part t k) 63 _ (by decide)) ?_
        rintro _ w8 ⟨rfl, hx8⟩
        replace hxwl6 := Ex.tr hxwl6 hx8
        have hE9 := hx8
        refine RG.done ?_
        refine QW.then_ ?_
        refine CW.condP rfl (fun hc10 => ?_) (fun hc10 => ?_)
        · have hsu := sym_unc (by assumption)
          have hel := eras_len t k
          refine CW.region ?_
          refine RG.vl rfl rfl rfl (Ev.move rfl rfl) ?_
          refine RG.vl rfl rfl rfl (Ev.move rfl rfl) ?_
          refine RG.vl rfl rfl rfl ((Ev.lenL rfl rfl rfl Tryz.underlying58 (((Own.ext hou hE9).rdl encB_len))).conv (congrArg (fun n : Nat => Value.int .i64 (n : Int)) hsl)) ?_
          refine RG.litO (os := [.tmp 37]) (enc := encZ) ([k]) rfl rfl rfl rfl rfl rfl rfl Tryz.underlying29 inf_3 rfl rfl rfl rfl rfl encZ_len rfl rfl (fun v11 wk12 hxwk12 hown13 hnew14 => ?_)
          have hsep15 : Sep v11 _ := Sep.of_new (Own.ext hou hE9) hnew14
          have hsep16 : Sep v11 _ := Sep.of_new (Own.ext hox hE9) hnew14
          replace hxwl6 := Ex.tr hxwl6 hxwk12
          replace hE9 := Ex.tr hE9 hxwk12
          have hE17 := hxwk12
          refine RG.appO rfl rfl rfl rfl rfl rfl rfl Tryz.underlying29 inf_3 rfl rfl encZ_len (fun _ => rfl) (Own.ext hox hE9) ((hown13.rdl encZ_len)) (by show _ + 1 ≤ maxLen; simp only [maxLen]; omega) (by show (_ + 1) * _ ≤ _; omega) (hxwl6.size) (fun v18 wa19 hown20 hgr21 hat22 => ?_)
          have hsep24 := Sep.app (Sep.symm hsp) (Own.ext hou hE9) hat22
          have hown23 := Own.grown (Own.ext hou hE9) hgr21 (fun k a b => (Sep.symm hsp) k b a)
          have hsep26 := Sep.app (Sep.symm hsep16) hown13 hat22
          have hown25 := Own.grown hown13 hgr21 (fun k a b => (Sep.symm hsep16) k b a)
          replace hxwl6 := own_block (Own.ext hox hE9) hxwl6 hgr21 (Nat.le_refl _) hxwl6.size
          refine RG.vl rfl rfl rfl (Ev.assign rfl rfl) ?_
          refine RG.done ?_
          refine QW.sub (S' := [(0, _), (2, _), (3, _), (4, _), (6, _), (7, _), (8, _), (10, _)]) ⟨rfl, rfl, rfl, rfl, rfl, rfl, rfl, rfl, trivial⟩ ?_
          refine QW.then_ ?_
          have hac : ((symB t k).toNat : Int) = 0 := by rw [hsu.2]; rfl
          refine CW.region ?_
          refine RG.vl rfl rfl rfl (Ev.move rfl rfl) ?_
          refine RG.vl rfl rfl rfl (Ev.move rfl rfl) ?_
          refine RG.vl rfl rfl rfl ((Ev.to8 rfl rfl Tryz.underlying3 Tryz.underlying5 (by omega)).conv (congrArg (Value.int .u8) hac.symm)) ?_
          refine RG.litO (os := [.tmp 52]) (enc := encB) ([symB t k]) rfl rfl rfl rfl rfl rfl rfl Tryz.underlying58 inf_5 rfl rfl rfl rfl rfl encB_len rfl rfl (fun v27 wk28 hxwk28 hown29 hnew30 => ?_)
          have hsep31 : Sep v27 _ := Sep.of_new hown23 hnew30
          have hsep32 : Sep v27 _ := Sep.of_new hown25 hnew30
          have hsep33 : Sep v27 _ := Sep.of_new hown20 hnew30
          replace hxwl6 := Ex.tr hxwl6 hxwk28
          have hE34 := hxwk28
          refine RG.appO rfl rfl rfl rfl rfl rfl rfl Tryz.underlying58 inf_5 rfl rfl encB_len (fun _ => rfl) (Own.ext hown23 hE34) ((hown29.rdl encB_len)) (by show _ + 1 ≤ maxLen; simp only [maxLen]; omega) (by show (_ + 1) * _ ≤ _; omega) (hxwl6.size) (fun v35 wa36 hown37 hgr38 hat39 => ?_)
          have hsep41 := Sep.app (Sep.symm hsep15) (Own.ext hown25 hE34) hat39
          have hown40 := Own.grown (Own.ext hown25 hE34) hgr38 (fun k a b => (Sep.symm hsep15) k b a)
          have hsep43 := Sep.app (Sep.symm hsep24) (Own.ext hown20 hE34) hat39
          have hown42 := Own.grown (Own.ext hown20 hE34) hgr38 (fun k a b => (Sep.symm hsep24) k b a)
          have hsep45 := Sep.app (Sep.symm hsep31) hown29 hat39
          have hown44 := Own.grown hown29 hgr38 (fun k a b => (Sep.symm hsep31) k b a)
          replace hxwl6 := own_block (Own.ext hown23 hE34) hxwl6 hgr38 (Nat.le_refl _) hxwl6.size
          refine RG.vl rfl rfl rfl (Ev.assign rfl rfl) ?_
          refine RG.done ?_
          refine QW.blockN ?_
          refine QW.then_ ?_
          refine CW.region ?_
          refine RG.vl rfl rfl rfl (Ev.move rfl rfl) ?_
          refine RG.vl rfl rfl rfl (Ev.addI rfl rfl rfl (by omega)) ?_
          refine RG.vl rfl rfl rfl (Ev.assign rfl rfl) ?_
          refine RG.done ?_
          refine QW.round3 (k + 1) (v35) (v18) ⟨rfl, rfl, rfl, trivial⟩ ⟨rfl, rfl, rfl, rfl, trivial⟩ ⟨⟨by omega, by rw [syms_more]; exact hown37, by rw [eras_yes hsu.1]; exact hown42, hsep43⟩, hxwl6⟩ (by omega)
        · refine CW.seq ?_
          have hnu := no_unc (by assumption)
          refine CW.region ?_
          refine RG.vl rfl rfl rfl (Ev.move rfl rfl) ?_
          refine RG.sRange rfl rfl rfl rfl rfl Tryz.underlying9 (fun gi w46 egi hx46 hb46 => ?_)
          have hsb47 := fun e => sep_new (g := gi) (Own.ext hou hE9) egi e
          have hsb48 := fun e => sep_new (g := gi) (Own.ext hox hE9) egi e
          have hle49 : w1.heap.size ≤ gi := by have := hxwl6.size; omega
          have hle50 : wl6.heap.size ≤ gi := by have := hE9.size; omega
          have hle51 : w8.heap.size ≤ gi := by have := (Ex.rfl_ w8).size; omega
          replace hxwl6 := Ex.tr hxwl6 hx46
          replace hE9 := Ex.tr hE9 hx46
          refine RG.done ?_
          refine QW.sub (S' := [(0, _), (2, _), (3, _), (4, _), (6, _), (7, _), (8, _), (10, _), (41, _)]) ⟨rfl, rfl, rfl, rfl, rfl, rfl, rfl, rfl, rfl, trivial⟩ ?_
          refine QW.then_ ?_
          refine CW.block ?_
          refine CW.loop2 [(0, _), (2, _), (3, _), (4, _), (6, _), (7, _), (8, _), (41, _)] ⟨rfl, rfl, rfl, rfl, rfl, rfl, rfl, rfl, trivial⟩ (fun (j : Nat) (ac : Nat) => [(10, .int .i64 (ac : Int))]) (fun j ac w' => (j ≤ 3 ∧ ac = accN ((part t k).take j) ∧ ac < 4 ^ j ∧ Si w' gi (⟨(part t k).toArray⟩ : ByteArray) j ∧ Own w' w1.heap.size 5 1 encB u (symsL t k) ∧ Own w' w1.heap.size 3 1 encZ x (erasL t k)) ∧ Ex w1 w') (fun j ac => 3 - j) (0) (0) ⟨rfl, trivial⟩ ⟨⟨by omega, rfl, by decide, hb46, (Own.ext hou hE9), (Own.ext hox hE9)⟩, hxwl6⟩ ?_
          rintro j ac wl52 ⟨⟨hj, hacc, hac4, hsi, hou, hox⟩, hxwl52⟩
          refine CW.sub (S' := [(10, _), (0, _), (2, _), (3, _), (4, _), (6, _), (7, _), (8, _), (41, _)]) ⟨rfl, rfl, rfl, rfl, rfl, rfl, rfl, rfl, rfl, trivial⟩ ?_
          refine CW.seq ?_
          refine CW.region ?_
          refine RG.sNext rfl rfl rfl rfl rfl hsi (fun hend => ?_) (fun wn53 hpos hwn53 hiwn53 => ?_)
          · refine RG.vl rfl rfl rfl (Ev.extract rfl rfl rfl) ?_
            refine RG.done ?_
            refine QW.then_ ?_
            refine CW.seq ?_
            refine CW.condF rfl ?_
            refine CW.exit ?_
            refine QW.thenExit ?_
            refine QW.thenExit ?_
            refine QW.blockHit ?_
            refine QW.then_ ?_
            obtain rfl : j = 3 := by omega
            have hac64 : ac < 64 := hac4
            rw [List.take_of_length_le (by omega)] at hacc
            have hac : ((symB t k).toNat : Int) = (ac : Int) := by rw [sym_clear hnu.1, ← hacc, UInt8.toNat_ofNat_of_lt' (show ac < 256 by omega)]
            refine CW.region ?_
            refine RG.vl rfl rfl rfl (Ev.move rfl rfl) ?_
            refine RG.vl rfl rfl rfl (Ev.move rfl rfl) ?_
            refine RG.vl rfl rfl rfl ((Ev.to8 rfl rfl Tryz.underlying3 Tryz.underlying5 (by omega)).conv (congrArg (Value.int .u8) hac.symm)) ?_
            refine RG.litO (os := [.tmp 52]) (enc := encB) ([symB t k]) rfl rfl rfl rfl rfl rfl rfl Tryz.underlying58 inf_5 rfl rfl rfl rfl rfl encB_len rfl rfl (fun v54 wk55 hxwk55 hown56 hnew57 => ?_)
            have hsep58 : Sep v54 _ := Sep.of_new hou hnew57
            have hsep59 : Sep v54 _ := Sep.of_new hox hnew57
            replace hxwl52 := Ex.tr hxwl52 hxwk55
            have hE60 := hxwk55
            refine RG.appO rfl rfl rfl rfl rfl rfl rfl Tryz.underlying58 inf_5 rfl rfl encB_len (fun _ => rfl) (Own.ext hou hE60) ((hown56.rdl encB_len)) (by show _ + 1 ≤ maxLen; simp only [maxLen]; omega) (by show (_ + 1) * _ ≤ _; omega) (hxwl52.size) (fun v61 wa62 hown63 hgr64 hat65 => ?_)
            have hsep67 := Sep.app hsp (Own.ext hox hE60) hat65
            have hown66 := Own.grown (Own.ext hox hE60) hgr64 (fun k a b => hsp k b a)
            have hsep69 := Sep.app (Sep.symm hsep58) hown56 hat65
            have hown68 := Own.grown hown56 hgr64 (fun k a b => (Sep.symm hsep58) k b a)
            replace hxwl52 := own_block (Own.ext hou hE60) hxwl52 hgr64 (Nat.le_refl _) hxwl52.size
            refine RG.vl rfl rfl rfl (Ev.assign rfl rfl) ?_
            refine RG.done ?_
            refine QW.blockN ?_
            refine QW.then_ ?_
            refine CW.region ?_
            refine RG.vl rfl rfl rfl (Ev.move rfl rfl) ?_
            refine RG.vl rfl rfl rfl (Ev.addI rfl rfl rfl (by omega)) ?_
            refine RG.vl rfl rfl rfl (Ev.assign rfl rfl) ?_
            refine RG.done ?_
            refine QW.round3 (k + 1) (v61) (x) ⟨rfl, rfl, rfl, trivial⟩ ⟨rfl, rfl, rfl, rfl, trivial⟩ ⟨⟨by omega, by rw [syms_more]; exact hown63, by rw [eras_no hnu.1]; exact hown66, hsep67⟩, hxwl52⟩ (by omega)
          · replace hou := Own.far hou hwn53 hsb47
            replace hox := Own.far hox hwn53 hsb48
            replace hxwl52 := Wr.below hxwl52 hwn53 hle49
            refine RG.vl rfl rfl rfl (Ev.extract rfl rfl rfl) ?_
            refine RG.done ?_
            refine QW.then_ ?_
            refine CW.seq ?_
            refine CW.condT rfl ?_
            refine CW.skip ?_
            refine QW.then_ ?_
            refine CW.block ?_
            refine CW.seq ?_
            obtain ⟨c, hc⟩ : ∃ c, (part t k)[j]? = some c := ⟨_, List.getElem?_eq_getElem (by rw [sb_len] at hpos; exact hpos)⟩
            have hcm := part_mem (List.mem_of_getElem? hc)
            have hlo := halo c hcm
            have hjj := (List.getElem?_eq_some_iff.1 hc).1
            obtain ⟨hn1, hn2⟩ := num_of (List.all_eq_true.1 hok.2 c hcm) (hnu.2 c (List.mem_of_getElem? hc))
            have hoc : UInt8.ofNat c.toNat = c := by simp
            have hmo := acc_more hc
            rw [dec_lo hc hlo] at hiwn53 ⊢
            refine CW.region ?_
            refine RG.vl rfl rfl rfl (Ev.extract rfl rfl rfl) ?_
            refine RG.vl rfl rfl rfl (Ev.assign rfl rfl) ?_
            refine RG.done ?_
            refine QW.then_ ?_
            have hp4 : 4 ^ j ≤ 4 ^ 2 := Nat.pow_le_pow_right (by decide) (by omega)
            have hac16 : ac < 16 := Nat.lt_of_lt_of_le hac4 hp4
            refine CW.region ?_
            refine RG.vl rfl rfl rfl (Ev.move rfl rfl) ?_
            refine RG.vl rfl rfl rfl (Ev.mulI rfl rfl rfl (by omega)) ?_
            refine RG.vl rfl rfl rfl (Ev.move rfl rfl) ?_
            refine RG.call rfl rfl rfl rfl rfl rfl rfl en_65 (Ret.mono (Ψ := fun v w' => v = .int .i64 (num c : Int) ∧ Ex wn53 w') (idxr_ret s4 c.toNat _ hlo) (fun v w' h => ⟨h.1.trans (congrArg (Value.int .i64) (by rw [hoc]; exact hn1)), h.2⟩)) ?_
            rintro _ w70 ⟨rfl, hx70⟩
            replace hxwl52 := Ex.tr hxwl52 hx70
            have hE71 := hx70
            refine RG.vl rfl rfl rfl ((Ev.addI rfl rfl rfl (by omega)).conv (congrArg (Value.int .i64) (show (ac : Int) * 4 + (num c : Int) = ((ac * 4 + num c : Nat) : Int) by omega))) ?_
            refine RG.vl rfl rfl rfl (Ev.assign rfl rfl) ?_
            refine RG.done ?_
            refine QW.blockN ?_
            refine QW.round2 (j + 1) (ac * 4 + num c) ⟨rfl, trivial⟩ ⟨rfl, rfl, rfl, rfl, rfl, rfl, rfl, rfl, trivial⟩ ⟨⟨by omega, by rw [hmo, hacc], by rw [Nat.pow_succ]; omega, (hiwn53.ext hE71), (Own.ext hou hE71), (Own.ext hox hE71)⟩, hxwl52⟩ (by omega)
      · refine CW.exit ?_
        refine QW.thenExit ?_
        refine QW.thenExit ?_
        refine QW.blockHit ?_
        refine QW.then_ ?_
        refine CW.seq ?_
        refine CW.region ?_
        refine RG.vl rfl rfl rfl (Ev.move rfl rfl) ?_
        refine RG.vl rfl rfl rfl (Ev.move rfl rfl) ?_
        refine RG.vl rfl rfl rfl (Ev.assign rfl rfl) ?_
        refine RG.vl rfl rfl rfl (Ev.assign rfl rfl) ?_
        refine RG.vl rfl rfl rfl (Ev.assign rfl rfl) ?_
        refine RG.done ?_
        refine QW.then_ ?_
        refine CW.ret ?_
        refine QW.ret3 rfl rfl rfl rfl ?_
        have hB := (Ex.tr hR5 hxwl6)
        obtain rfl : k = t.length / 3 := by omega
        have hro := read_ok he0 (by omega)
        exact ⟨_, _, by rw [hro], by rw [hro]; exact hou.low (by have := hR5.size; omega), by rw [hro]; exact hox.low (by have := hR5.size; omega), hB⟩

end Go.Proofs.YtgjnchjkjdnidaaGreat

/- The walk inside a round of a range over a function: what a region does at the wide fence, it does in a round. -/
namespace Go.Proofs.YtgjnchjkjdnidaaGreat
open Go.RowKit
def noDefer (l : List Oper) : Bool := l.all fun o => match o.op with | .defer _ => false | _ => true
theorem noDefer_cons {o : Oper} {l : List Oper} (h : noDefer (o :: l) = true) : (∀ c, o.op ≠ .defer c) ∧ noDefer l = true := by
  unfold noDefer at h ⊢
  rw [List.all_cons, Bool.and_eq_true] at h
  refine ⟨fun c hc => ?_, h.2⟩
  have h1 := h.1
  rw [hc] at h1; cases h1
theorem rowsIn_round {k l : Nat} {P : Program} {row : String} {args : Array Value} {w : World} {R : Value → World → Prop} (h : Rows P row args w R) : RowsIn (Fence.wide.inRound l) k P row args w R :=
  fun c cs _ => let ⟨v, w', r, s⟩ := h c cs; ⟨v, w', r, stepsIn_wide.2 s⟩
/-- A list of operations, in a round. -/
theorem listIn_round {k l : Nat} {P : Program} {ops : Array Oper} {Q : Exit → Act → World → Prop} (hQ : ∀ a w, Q .outgrown a w → False) : ∀ (os : List Oper), noDefer os = true → ∀ (a : Act) (w : World), wpList P ops Q os a w → wpListIn (Fence.wide.inRound l) k P ops Q os a w := by
  intro os
  induction os with
  | nil => exact fun _ a w h => h
  | cons o os ih =>
    intro hd a w h
    obtain ⟨ho, hd'⟩ := noDefer_cons hd
    unfold wpList at h
    unfold wpListIn
    split at h
    · rename_i hw
      rw [if_pos hw]
      rcases h with h | ⟨_, a', w', h⟩
      · refine ⟨fun f _ => trivial, ?_⟩
        show o.uponIn _ k P a _ Q ((Oper.semAt (some l) a.eval o).run P w)
        rw [Oper.semAt_some l a.eval o ho]
        unfold Oper.wp at h
        generalize (execOp a.eval o).run P w = r at h ⊢
        unfold Oper.upon at h
        split at h
        · exact ih hd' _ _ h
        · exact ih hd' _ _ h
        · exact ih hd' _ _ h
        · refine ⟨(fun h => by cases h), CallsIn.inRound l (callsIn_wide.2 (Calls.mono h ?_))⟩
          intro e w2 h2
          cases e with
          | returned v => exact ih hd' _ _ h2
          | panicked ch => exact h2
          | outgrown => exact h2
        · refine ⟨(fun h => by cases h), ?_⟩
          exact rowsIn_round (Rows.mono h fun v w2 h2 => ih hd' _ _ h2)
        · exact h
        · exact h.elim
      · exact (hQ a' w' h).elim
    · rename_i hw
      rw [if_neg hw]
      exact ⟨fun f _ => trivial, ih hd' _ _ h⟩
def CWJ (r k : Nat) (P : Program) (c : Code) (Q : Exit → Act → World → Prop) (n : Nat) (S : Slots) (w : World) : Prop := ∀ a, Fr n S a → c.wpIn (Fence.wide.inRound r) k P Q a w
section
variable {r k n : Nat} {P : Program} {Q : Exit → Act → World → Prop} {l : List Oper} {S : Slots} {w : World}
theorem CWJ.region {id : Nat} (hd : noDefer l = true) (hQ : ∀ a w, Q .outgrown a w → False) (kk : RG P l.toArray Q n l S w) : CWJ r k P (.region id l.toArray false) Q n S w := fun a ha => wpIn_region_lit (listIn_round hQ l hd a w (kk a ha))
theorem CWJ.seq {x y : Code} (kk : CWJ r k P x (Exit.then (fun a w => y.wpIn (Fence.wide.inRound r) k P Q a w) Q) n S w) : CWJ r k P (.seq x y) Q n S w := fun a ha => wpIn_seq (kk a ha)
theorem QWJ.then_ {c : Code} (kk : CWJ r k P c Q n S w) : QW (Exit.then (fun a w => c.wpIn (Fence.wide.inRound r) k P Q a w) Q) .normal n S w := kk
theorem CWJ.sub {c : Code} {S' : Slots} (hs : Sub S' S) (kk : CWJ r k P c Q n S' w) : CWJ r k P c Q n S w := fun a ha => kk a (ha.sub hs)
theorem CWJ.skip (kk : QW Q .normal n S w) : CWJ r k P .skip Q n S w := fun a ha => wpIn_skip (kk a ha)
theorem CWJ.ret (kk : QW Q .ret n S w) : CWJ r k P .ret Q n S w := fun a ha => wpIn_ret (kk a ha)
theorem CWJ.exit {id : Nat} (kk : QW Q (.exit id) n S w) : CWJ r k P (.exit id) Q n S w := fun a ha => wpIn_exit (kk a ha)
theorem CWJ.block {id : Nat} {c : Code} (kk : CWJ r k P c (Exit.inBlock id Q) n S w) : CWJ r k P (.block id c) Q n S w := fun a ha => wpIn_block (kk a ha)
theorem CWJ.cond {c : Operand} {x y : Code} {t : Bool} (hc : ev S c = some (.bool t)) (ht : t = true → CWJ r k P x Q n S w) (hf : t = false → CWJ r k P y Q n S w) : CWJ r k P (.cond c x y) Q n S w :=
  fun a ha => wpIn_cond_split (ha.eval hc) (fun h => ht h a ha) (fun h => hf h a ha)
theorem CWJ.condT {c : Operand} {x y : Code} (hc : ev S c = some (.bool true)) (kk : CWJ r k P x Q n S w) : CWJ r k P (.cond c x y) Q n S w :=
  fun a ha => wpIn_cond_true (ha.eval hc) (kk a ha)
theorem CWJ.condF {c : Operand} {x y : Code} (hc : ev S c = some (.bool false)) (kk : CWJ r k P y Q n S w) : CWJ r k P (.cond c x y) Q n S w :=
  fun a ha => wpIn_cond_false (ha.eval hc) (kk a ha)
theorem CWJ.condP {c : Operand} {x y : Code} {p : Prop} [Decidable p] (hc : ev S c = some (.bool (decide p))) (ht : p → CWJ r k P x Q n S w) (hf : ¬ p → CWJ r k P y Q n S w) : CWJ r k P (.cond c x y) Q n S w :=
  CWJ.cond hc (fun h => ht (of_decide_eq_true h)) (fun h => hf (of_decide_eq_false h))
theorem CWJ.loop {γ : Type} {c : Code} (I : γ → Slots) (J : γ → World → Prop) (μ : γ → Nat) (g0 : γ) (hS : Sub (I g0) S) (h0 : J g0 w)
    (round : ∀ g w, J g w → CWJ r k P c (Exit.then (fun a' w' => ∃ g', Fr n (I g') a' ∧ J g' w' ∧ μ g' < μ g) Q) n (I g) w) : CWJ r k P (.loop c) Q n S w := by
  intro a ha
  refine wpIn_loop_ghost (fun m a' w' => ∃ g, μ g = m ∧ Fr n (I g) a' ∧ J g w') (μ g0) ⟨g0, rfl, ha.sub hS, h0⟩ ?_
  rintro m a' w' ⟨g, rfl, hf, hj⟩
  refine wpIn_mono (round g w' hj a' hf) ?_
  intro e a₁ w₁ hq
  cases e with
  | normal =>
    obtain ⟨g', h1, h2, h3⟩ := hq
    exact ⟨μ g', h3, g', rfl, h1, h2⟩
  | exit id => exact hq
  | goto l => exact hq
  | ret => exact hq
  | panic ch => exact hq
  | outgrown => exact hq
theorem CWJ.loop1 {α : Type} {c : Code} (F : Slots) (hF : Sub F S) (I : α → Slots) (J : α → World → Prop) (μ : α → Nat) (x0 : α) (hS : Sub (I x0) S) (h0 : J x0 w)
    (round : ∀ x w, J x w → CWJ r k P c (Exit.then (fun a' w' => ∃ x', Fr n (I x' ++ F) a' ∧ J x' w' ∧ μ x' < μ x) Q) n (I x ++ F) w) : CWJ r k P (.loop c) Q n S w :=
  CWJ.loop (fun x => I x ++ F) J μ x0 (hS.app hF) h0 round
theorem CWJ.loop2 {α β : Type} {c : Code} (F : Slots) (hF : Sub F S) (I : α → β → Slots) (J : α → β → World → Prop) (μ : α → β → Nat) (x0 : α) (y0 : β) (hS : Sub (I x0 y0) S) (h0 : J x0 y0 w)
    (round : ∀ x y w, J x y w → CWJ r k P c (Exit.then (fun a' w' => ∃ x' y', Fr n (I x' y' ++ F) a' ∧ J x' y' w' ∧ μ x' y' < μ x y) Q) n (I x y ++ F) w) : CWJ r k P (.loop c) Q n S w :=
  CWJ.loop (γ := α × β) (fun g => I g.1 g.2 ++ F) (fun g => J g.1 g.2) (fun g => μ g.1 g.2) (x0, y0) (hS.app hF) h0 (fun g w hj a ha => wpIn_mono (round g.1 g.2 w hj a ha) (by
    intro e a w h
    cases e <;> first | exact h | (obtain ⟨x, y, h⟩ := h; exact ⟨(x, y), h⟩)))
theorem CWJ.loop3 {α β γ : Type} {c : Code} (F : Slots) (hF : Sub F S) (I : α → β → γ → Slots) (J : α → β → γ → World → Prop) (μ : α → β → γ → Nat) (x0 : α) (y0 : β) (z0 : γ) (hS : Sub (I x0 y0 z0) S) (h0 : J x0 y0 z0 w)
    (round : ∀ x y z w, J x y z w → CWJ r k P c (Exit.then (fun a' w' => ∃ x' y' z', Fr n (I x' y' z' ++ F) a' ∧ J x' y' z' w' ∧ μ x' y' z' < μ x y z) Q) n (I x y z ++ F) w) : CWJ r k P (.loop c) Q n S w :=
  CWJ.loop (γ := α × β × γ) (fun g => I g.1 g.2.1 g.2.2 ++ F) (fun g => J g.1 g.2.1 g.2.2) (fun g => μ g.1 g.2.1 g.2.2) (x0, y0, z0) (hS.app hF) h0 (fun g w hj a ha => wpIn_mono (round g.1 g.2.1 g.2.2 w hj a ha) (by
    intro e a w h
    cases e <;> first | exact h | (obtain ⟨x, y, z, h⟩ := h; exact ⟨(x, y, z), h⟩)))
end
end Go.Proofs.YtgjnchjkjdnidaaGreat

/- Steps: an array of four numbers against zeros; an array as a slice. -/
namespace Go.Proofs.YtgjnchjkjdnidaaGreat
open Go.RowKit
section
variable {P : Program} {n : Nat} {S : Slots} {w : World} {o : Oper}
theorem Ev.eq4 {T T' e by_ : Nat} {zz : Value} {x y : Operand} {a b c d : Int} (ho : o.op = .binOp .eql T x y T') (hx : ev S x = some (.agg ([.int .u8 a, .int .u8 b, .int .u8 c, .int .u8 d] : List Value).toArray)) (hy : ev S y = some (.agg ([.int .u8 0, .int .u8 0, .int .u8 0, .int .u8 0] : List Value).toArray))
    (ht : P.underlying T = some (.array 4 e)) (he : P.underlying e = some (.int .u8)) (hi : (P.info? e).map (fun i => (i.zero, i.size, i.bytes)) = some (some zz, 1, by_)) (hg : P.eqGuardType P.depth T = false) : Ev P n o S w (.bool (decide (a = 0 ∧ b = 0 ∧ c = 0 ∧ d = 0))) := fun act ha => by
  obtain ⟨i, hii, _, hz1, _⟩ := info_parts hi
  simp only [execOp, ho]; rw [ha.eval hx, ha.eval hy]
  have hc : P.cellsOf e = 1 := by simp [Program.cellsOf, hii, hz1]
  have h := run_equalIn_array (P := P) (w := w) 9999 ([.int .u8 a, .int .u8 b, .int .u8 c, .int .u8 d] : List Value).toArray ([.int .u8 0, .int .u8 0, .int .u8 0, .int .u8 0] : List Value).toArray ht hii
  have hI : ∀ (w : World) (p q : Int), (Op.equalIn 9999 e (.int .u8 p) (.int .u8 q)).run P w = .ok (p == q) w := fun w p q => run_equalIn_int w 9998 e .u8 .u8 p q he
  have hA : ∀ w : World, (isAgg e).run P w = .ok false w := fun w => by rw [run_isAgg he]; rfl
  have e2 : (Op.equalIn 10000 T (.agg ([.int .u8 a, .int .u8 b, .int .u8 c, .int .u8 d] : List Value).toArray) (.agg ([.int .u8 0, .int .u8 0, .int .u8 0, .int .u8 0] : List Value).toArray)).run P w = .ok (decide (a = 0 ∧ b = 0 ∧ c = 0 ∧ d = 0)) w := by
    rw [show (10000 : Nat) = 9999 + 1 from rfl, h, hc]
    simp only [List.range_succ, List.range_zero, List.nil_append, List.cons_append, Op.eqItems, Go.part, Sem.run_bind, hA, Result.andThen_ok]
    by_cases ha : a = 0
    · by_cases hb : b = 0
      · by_cases hc : c = 0
        · by_cases hd : d = 0
          · simp [hI, hA, ha, hb, hc, hd]
          · simp [hI, hA, ha, hb, hc, hd]
        · simp [hI, hA, ha, hb, hc]
      · simp [hI, hA, ha, hb]
    · simp [hI, hA, ha]
  simp [run_eqGuard_agg w _ _ _ _ _ _ hg, run_eql_struct, e2]
theorem Ev.buildAZ {T e len sz sz' by_ : Nat} {z : Value} {zs : List Value} (ho : o.op = .build T #[]) (ht : P.underlying T = some (.array len e)) (hs : sizeP P e = some sz) (hi : (P.info? T).map (fun i => (i.zero, i.size, i.bytes)) = some (some z, sz', by_)) (hz : z.cells = zs.toArray) : Ev P n o S w (.agg zs.toArray) := fun a ha => by
  obtain ⟨i, hii, hz0, hz1, hz2⟩ := info_parts hi
  simp only [execOp, ho, Instr.build, Sem.run_bind, zeroValue, typeInfo, run_underlying ht]
  simp [hii, hz0, run_sizeOf hs, hz, Instr.fill]
theorem Ev.sliceArr {T e sz m : Nat} {x : Operand} {ad : Addr} (ho : o.op = .slice T x none none none) (hx : ev S x = some (.pointer (some ad))) (ht : P.underlying T = some (.array m e)) (hs : sizeP P e = some sz) : Ev P n o S w (.slice (some ad) m m) := fun a ha => by
  simp only [execOp, ho]; rw [ha.eval hx]
  simp [Instr.sliceAt, Instr.sureAddr, Instr.sliceBounds, run_underlying ht, run_sizeOf hs, add_zero_]
end
/-- A word of which nothing is left over. -/
theorem syn_zero {l : List Nat} : (((sy l 0 : Nat) : Int) = 0 ∧ ((sy l 1 : Nat) : Int) = 0 ∧ ((sy l 2 : Nat) : Int) = 0 ∧ ((sy l 3 : Nat) : Int) = 0) ↔ ∀ r, r < 4 → sy l r = 0 := by
  constructor
  · rintro ⟨h0, h1, h2, h3⟩ r hr
    match r, hr with
    | 0, _ => omega
    | 1, _ => omega
    | 2, _ => omega
    | 3, _ => omega
  · intro h
    have := h 0 (by omega); have := h 1 (by omega); have := h 2 (by omega); have := h 3 (by omega)
    omega
def vldB (l : List Nat) : Bool := isW l && decide (((sy l 0 : Nat) : Int) = 0 ∧ ((sy l 1 : Nat) : Int) = 0 ∧ ((sy l 2 : Nat) : Int) = 0 ∧ ((sy l 3 : Nat) : Int) = 0)
theorem vldB_iff {l : List Nat} : vldB l = true ↔ isW l = true ∧ ∀ r, r < 4 → sy l r = 0 := by unfold vldB; rw [Bool.and_eq_true, decide_eq_true_eq, syn_zero]
def encOk (l : List Nat) : Bool := decide (1 ≤ l.length) && decide (l.length ≤ 59) && areE l
theorem encOk_iff {l : List Nat} : encOk l = true ↔ 1 ≤ l.length ∧ l.length ≤ 59 ∧ El l := by
  unfold encOk; rw [Bool.and_eq_true, Bool.and_eq_true, decide_eq_true_eq, decide_eq_true_eq, areE_el, and_assoc]
theorem El.zeros (k : Nat) : El (List.replicate k 0) := fun a h => by rw [List.eq_of_mem_replicate h]; decide
end Go.Proofs.YtgjnchjkjdnidaaGreat

/- Plain: sums, equations in four rows, what the steps of the elimination keep. -/
namespace Go.Proofs.YtgjnchjkjdnidaaGreat
open Go.RowKit
def xs_ : Nat → (Nat → Nat) → Nat
  | 0, _ => 0
  | n + 1, f => xs_ n f ^^^ f n
theorem xs_congr {f g : Nat → Nat} : ∀ {n : Nat}, (∀ j, j < n → f j = g j) → xs_ n f = xs_ n g
  | 0, _ => rfl
  | n + 1, h => by rw [xs_, xs_, xs_congr (fun j hj => h j (by omega)), h n (by omega)]
theorem xs_lt {f : Nat → Nat} : ∀ {n : Nat}, (∀ j, j < n → f j < 64) → xs_ n f < 64
  | 0, _ => by show 0 < 64; omega
  | n + 1, h => xor_lt64 _ _ (xs_lt fun j hj => h j (by omega)) (h n (by omega))
theorem xor4 (a b c d : Nat) : (a ^^^ b) ^^^ (c ^^^ d) = (a ^^^ c) ^^^ (b ^^^ d) := by
  rw [Nat.xor_assoc, Nat.xor_assoc, ← Nat.xor_assoc b, Nat.xor_comm b c, Nat.xor_assoc c]
theorem xs_xor (f g : Nat → Nat) : ∀ n, xs_ n (fun j => f j ^^^ g j) = xs_ n f ^^^ xs_ n g
  | 0 => by simp [xs_]
  | n + 1 => by rw [xs_, xs_, xs_, xs_xor f g n, xor4]
theorem xs_gm {a : Nat} (ha : a < 64) {f : Nat → Nat} : ∀ {n : Nat}, (∀ j, j < n → f j < 64) → xs_ n (fun j => gm a (f j)) = gm a (xs_ n f)
  | 0, _ => (gm_zr a).symm
  | n + 1, h => by
    have h1 : ∀ j, j < n → f j < 64 := fun j hj => h j (by omega)
    rw [xs_, xs_, xs_gm ha h1, gm_xor _ _ _ ha (xs_lt h1) (h n (by omega))]
theorem xs_zero {f : Nat → Nat} {n : Nat} (h : ∀ j, j < n → f j = 0) : xs_ n f = 0 := by
  rw [xs_congr (g := fun _ => 0) h]
  clear h
  induction n with
  | zero => rfl
  | succ n ih => rw [xs_, ih]; rfl
theorem xs_one {f : Nat → Nat} {i : Nat} : ∀ {n : Nat}, i < n → (∀ j, j < n → j ≠ i → f j = 0) → xs_ n f = f i
  | 0, h, _ => absurd h (by omega)
  | n + 1, h, hz => by
    rw [xs_]
    by_cases e : i = n
    · subst e; rw [xs_zero fun j hj => hz j (by omega) (by omega), Nat.zero_xor]
    · rw [xs_one (by omega) (fun j hj => hz j (by omega)), hz n (by omega) (by omega), Nat.xor_zero]
/-! equations -/
abbrev Mx := Nat → Nat → Nat
def EM (M : Mx) : Prop := ∀ r c, r < 4 → c < 5 → M r c < 64
def EX (x : Nat → Nat) : Prop := ∀ j, x j < 64
def dot (M : Mx) (k r : Nat) (x : Nat → Nat) : Nat := xs_ k fun j => gm (M r j) (x j)
def Sol (M : Mx) (k : Nat) (x : Nat → Nat) : Prop := ∀ r, r < 4 → dot M k r x = M r 4
def Hom (M : Mx) (k : Nat) (x : Nat → Nat) : Prop := ∀ r, r < 4 → dot M k r x = 0
theorem dot_lt (M : Mx) (k r : Nat) (x : Nat → Nat) : dot M k r x < 64 := xs_lt fun _ _ => gm_lt _ _
theorem dot_congr {M M' : Mx} {k r r' : Nat} {x : Nat → Nat} (h : ∀ c, c < k → M r c = M' r' c) : dot M k r x = dot M' k r' x := xs_congr fun j hj => by rw [h j hj]
def upd (M : Mx) (r c v : Nat) : Mx := fun r' c' => if r' = r ∧ c' = c then v else M r' c'
def updR (M : Mx) (r : Nat) (f : Nat → Nat) : Mx := fun r' c => if r' = r then f c else M r' c
def subTo (M : Mx) (r i t k : Nat) : Mx := fun r' c => if r' = r ∧ c < k then M r c ^^^ gm t (M i c) else M r' c
def scTo (M : Mx) (i t k : Nat) : Mx := fun r c => if r = i ∧ c < k then gm (M r c) t else M r c
def swp (M : Mx) (i row : Nat) : Mx := updR (updR M i (M row)) row (M i)
def pivM (M : Mx) (i row : Nat) : Mx := scTo (swp M i row) i (gi (M row i)) 5
theorem subTo_zero (M : Mx) (r i t : Nat) : subTo M r i t 0 = M := by funext a b; unfold subTo; rw [if_neg (by omega)]
theorem scTo_zero (M : Mx) (i t : Nat) : scTo M i t 0 = M := by funext a b; unfold scTo; rw [if_neg (by omega)]
theorem subTo_more (M : Mx) (r i t k : Nat) : upd (subTo M r i t k) r k (M r k ^^^ gm t (M i k)) = subTo M r i t (k + 1) := by
  funext a b
  unfold upd subTo
  by_cases h1 : a = r
  · subst h1
    by_cases h2 : b = k
    · subst h2; rw [if_pos ⟨rfl, rfl⟩, if_pos ⟨rfl, by omega⟩]
    · rw [if_neg (fun h => h2 h.2)]
      by_cases h3 : b < k
      · rw [if_pos ⟨rfl, h3⟩, if_pos ⟨rfl, by omega⟩]
      · rw [if_neg (fun h => h3 h.2), if_neg (by omega)]
  · rw [if_neg (fun h => h1 h.1), if_neg (fun h => h1 h.1), if_neg (fun h => h1 h.1)]
theorem scTo_more (M : Mx) (i t k : Nat) : upd (scTo M i t k) i k (gm (M i k) t) = scTo M i t (k + 1) := by
  funext a b
  unfold upd scTo
  by_cases h1 : a = i
  · subst h1
    by_cases h2 : b = k
    · subst h2; rw [if_pos ⟨rfl, rfl⟩, if_pos ⟨rfl, by omega⟩]
    · rw [if_neg (fun h => h2 h.2)]
      by_cases h3 : b < k
      · rw [if_pos ⟨rfl, h3⟩, if_pos ⟨rfl, by omega⟩]
      · rw [if_neg (fun h => h3 h.2), if_neg (by omega)]
  · rw [if_neg (fun h => h1 h.1), if_neg (fun h => h1 h.1), if_neg (fun h => h1 h.1)]
theorem swp_at (M : Mx) (i row r c : Nat) : swp M i row r c = if r = row then M i c else if r = i then M row c else M r c := by
  unfold swp updR; rfl
theorem swp_i (M : Mx) (i row c : Nat) : swp M i row i c = M row c := by
  rw [swp_at]; by_cases h : i = row
  · rw [if_pos h, h]
  · rw [if_neg h, if_pos rfl]
theorem EM.swp {M : Mx} (h : EM M) {i row : Nat} (hi : i < 4) (hr : row < 4) : EM (swp M i row) := fun r c h1 h2 => by
  rw [swp_at]; split
  · exact h i c hi h2
  · split
    · exact h row c hr h2
    · exact h r c h1 h2
theorem EM.scTo {M : Mx} (h : EM M) (i t k : Nat) : EM (scTo M i t k) := fun r c h1 h2 => by
  unfold Go.Proofs.YtgjnchjkjdnidaaGreat.scTo; split
  · exact gm_lt _ _
  · exact h r c h1 h2
theorem EM.subTo {M : Mx} (h : EM M) {r i : Nat} (t k : Nat) (hr : r < 4) : EM (subTo M r i t k) := fun r' c h1 h2 => by
  unfold Go.Proofs.YtgjnchjkjdnidaaGreat.subTo; split
  · exact xor_lt64 _ _ (h r c hr h2) (gm_lt _ _)
  · exact h r' c h1 h2
/-- The elimination at work: what has the equations' solutions, the columns ahead of i those of the unit. -/
structure Gs (M0 : Mx) (k : Nat) (M : Mx) (i : Nat) : Prop where
  el : EM M
  sol : ∀ x, EX x → (Sol M k x ↔ Sol M0 k x)
  hom : ∀ x, EX x → (Hom M k x ↔ Hom M0 k x)
  unit : ∀ j r, j < i → r < 4 → M r j = if r = j then 1 else 0
structure Gr (M0 : Mx) (k : Nat) (M : Mx) (i row : Nat) : Prop extends Gs M0 k M i where
  one : M i i = 1
  zer : ∀ r, r < row → r < 4 → r ≠ i → M r i = 0
theorem xor_cancel {a b c : Nat} : a ^^^ c = b ^^^ c ↔ a = b := by
  constructor
  · intro h
    have := congrArg (· ^^^ c) h
    simpa [Nat.xor_assoc] using this
  · rintro rfl; rfl
/-- The equations hold of swapped and scaled rows just where they hold. -/
theorem piv_dot {M : Mx} {k i row : Nat} (hM : EM M) (hi : i < 4) (hr : row < 4) (hk : k ≤ 4) (h0 : M row i ≠ 0) (b : Nat → Nat) (x : Nat → Nat) (hb : ∀ r, r < 4 → b r < 64)
    (b' : Nat → Nat) (hb' : ∀ r, b' r = if r = i then gm (if i = row then b i else b row) (gi (M row i)) else if r = row then b i else b r) :
    (∀ r, r < 4 → dot (pivM M i row) k r x = b' r) ↔ ∀ r, r < 4 → dot M k r x = b r := by
  have hg := gi_lt (M row i)
  have hgi := gm_gi (M row i) (hM row i hr (by omega)) h0
  have di : dot (pivM M i row) k i x = gm (gi (M row i)) (dot M k row x) := by
    unfold dot
    rw [← xs_gm hg.2 fun j _ => gm_lt _ _]
    refine xs_congr fun j hj => ?_
    show gm (scTo (swp M i row) i (gi (M row i)) 5 i j) (x j) = _
    unfold scTo
    rw [if_pos ⟨rfl, by omega⟩, swp_i, ← gm_assoc, gm_comm (gi _)]
  have dr : ∀ r, r ≠ i → dot (pivM M i row) k r x = dot M k (if r = row then i else r) x := fun r hr => dot_congr fun c _ => by
    show scTo (swp M i row) i (gi (M row i)) 5 r c = _
    unfold scTo
    rw [if_neg (fun h => hr h.1), swp_at]
    by_cases e : r = row
    · rw [if_pos e, if_pos e]
    · rw [if_neg e, if_neg e, if_neg hr]
  have cancel : ∀ a c, a < 64 → c < 64 → (gm (gi (M row i)) a = gm c (gi (M row i)) ↔ a = c) := fun a c h1 h2 => by
    rw [gm_comm c]
    exact ⟨fun h => gm_cancel _ _ _ hg.2 h1 h2 (by omega) h, fun h => by rw [h]⟩
  constructor
  · intro h
    have hrow : dot M k row x = b row := by
      have := h i hi
      rw [di, hb', if_pos rfl] at this
      by_cases e : i = row
      · rw [if_pos e] at this; subst e; exact (cancel _ _ (dot_lt _ _ _ _) (hb _ hi)).1 this
      · rw [if_neg e] at this; exact (cancel _ _ (dot_lt _ _ _ _) (hb _ hr)).1 this
    intro r hr4
    by_cases e1 : r = row
    · rw [e1]; exact hrow
    · by_cases e2 : r = i
      · subst e2
        have := h row hr
        rw [dr row (fun e => e1 e.symm), if_pos rfl, hb', if_neg (fun e => e1 e.symm), if_pos rfl] at this
        exact this
      · have := h r hr4
        rw [dr r e2, if_neg e1, hb', if_neg e2, if_neg e1] at this
        exact this
  · intro h r hr4
    rw [hb']
    by_cases e2 : r = i
    · subst e2
      rw [if_pos rfl, di, h row hr]
      by_cases e : r = row
      · rw [if_pos e, e]; exact gm_comm _ _
      · rw [if_neg e]; exact gm_comm _ _
    · rw [if_neg e2, dr r e2]
      by_cases e1 : r = row
      · rw [if_pos e1, if_pos e1]; exact h i hi
      · rw [if_neg e1, if_neg e1]; exact h r hr4
theorem gs_piv {M0 M : Mx} {k i row : Nat} (h : Gs M0 k M i) (hk : k ≤ 4) (hi : i < k) (hir : i ≤ row) (hr : row < 4) (h0 : M row i ≠ 0) : Gr M0 k (pivM M i row) i 0 := by
  have hg := gi_lt (M row i)
  have piv4 : ∀ c, c < 5 → ∀ r, pivM M i row r c = if r = i then gm (M row c) (gi (M row i)) else if r = row then M i c else M r c := fun c hc r => by
    show scTo (swp M i row) i (gi (M row i)) 5 r c = _
    unfold scTo
    by_cases e : r = i
    · subst e; rw [if_pos ⟨rfl, hc⟩, if_pos rfl, swp_i]
    · rw [if_neg (fun h => e h.1), if_neg e, swp_at]
      by_cases e2 : r = row
      · rw [if_pos e2, if_pos e2]
      · rw [if_neg e2, if_neg e2, if_neg e]
  refine ⟨⟨(h.el.swp (by omega) hr).scTo _ _ _, fun x hx => ?_, fun x hx => ?_, fun j r hj hr4 => ?_⟩, ?_, fun r h => absurd h (by omega)⟩
  · rw [← h.sol x hx]
    exact piv_dot h.el (by omega) hr hk h0 (fun r => M r 4) x (fun r hr => h.el r 4 hr (by omega)) _ fun r => by
      rw [piv4 4 (by omega)]
      by_cases e : i = row
      · subst e; rw [if_pos rfl]
      · rw [if_neg e]
  · rw [← h.hom x hx]
    exact piv_dot h.el (by omega) hr hk h0 (fun _ => 0) x (fun r _ => by omega) (fun _ => 0) fun r => by
      simp only [ite_self, gm_zl]
  · rw [piv4 j (by omega), h.unit j row hj hr, if_neg (show ¬ row = j by omega), gm_zl, h.unit j i hj (by omega), if_neg (show ¬ i = j by omega), h.unit j r hj hr4]
    by_cases e1 : r = i
    · rw [if_pos e1, if_neg (by omega)]
    · rw [if_neg e1]
      by_cases e2 : r = row
      · rw [if_pos e2, if_neg (by omega)]
      · rw [if_neg e2]
  · rw [piv4 i (by omega), if_pos rfl]
    exact gm_gi _ (h.el row i hr (by omega)) h0
/-- A row less some times another. -/
theorem sub_dot {M : Mx} {k r i t : Nat} (hM : EM M) (hr : r < 4) (hi : i < 4) (hne : r ≠ i) (ht : t < 64) (hk : k ≤ 4) (b b' x : Nat → Nat) (hx : EX x) (hb' : ∀ r', b' r' = if r' = r then b r ^^^ gm t (b i) else b r') :
    (∀ r', r' < 4 → dot (subTo M r i t 5) k r' x = b' r') ↔ ∀ r', r' < 4 → dot M k r' x = b r' := by
  have d1 : dot (subTo M r i t 5) k r x = dot M k r x ^^^ gm t (dot M k i x) := by
    unfold dot
    rw [← xs_gm ht fun j _ => gm_lt _ _, ← xs_xor]
    refine xs_congr fun j hj => ?_
    show gm (subTo M r i t 5 r j) (x j) = _
    unfold subTo
    rw [if_pos ⟨rfl, by omega⟩, xor_gm _ _ _ (hx j) (hM r j hr (by omega)) (gm_lt _ _), gm_assoc]
  have d2 : ∀ r', r' ≠ r → dot (subTo M r i t 5) k r' x = dot M k r' x := fun r' h => dot_congr fun c _ => by
    unfold subTo; rw [if_neg (fun e => h e.1)]
  constructor
  · intro h r' hr'
    have hi' := h i hi
    rw [d2 i (Ne.symm hne), hb', if_neg (Ne.symm hne)] at hi'
    by_cases e : r' = r
    · subst e
      have := h r' hr'
      rw [d1, hb', if_pos rfl, hi'] at this
      exact xor_cancel.1 this
    · have := h r' hr'
      rw [d2 r' e, hb', if_neg e] at this; exact this
  · intro h r' hr'
    rw [hb']
    by_cases e : r' = r
    · subst e; rw [if_pos rfl, d1, h r' hr', h i hi]
    · rw [if_neg e, d2 r' e, h r' hr']
theorem gr_sub {M0 M : Mx} {k i row : Nat} (h : Gr M0 k M i row) (hk : k ≤ 4) (hi : i < k) (hr : row < 4) (hne : row ≠ i) : Gr M0 k (subTo M row i (M row i) 5) i (row + 1) := by
  have ht := h.el row i hr (by omega)
  have s5 : ∀ c, c < 5 → ∀ r, subTo M row i (M row i) 5 r c = if r = row then M row c ^^^ gm (M row i) (M i c) else M r c := fun c hc r => by
    unfold subTo
    by_cases e : r = row
    · rw [if_pos ⟨e, hc⟩, if_pos e]
    · rw [if_neg (fun h => e h.1), if_neg e]
  refine ⟨⟨h.el.subTo _ _ hr, fun x hx => ?_, fun x hx => ?_, fun j r hj hr4 => ?_⟩, ?_, fun r h1 h2 h3 => ?_⟩
  · rw [← h.sol x hx]
    exact sub_dot h.el hr (by omega) hne ht hk (fun r => M r 4) _ x hx fun r => s5 4 (by omega) r
  · rw [← h.hom x hx]
    exact sub_dot h.el hr (by omega) hne ht hk (fun _ => 0) (fun _ => 0) x hx fun r => by simp only [gm_zr, Nat.xor_zero, ite_self]
  · rw [s5 j (by omega), h.unit j i hj (by omega), if_neg (show ¬ i = j by omega), gm_zr, Nat.xor_zero]
    by_cases e : r = row
    · rw [if_pos e, ← e]; exact h.unit j r hj hr4
    · rw [if_neg e]; exact h.unit j r hj hr4
  · rw [s5 i (by omega), if_neg (Ne.symm hne)]; exact h.one
  · rw [s5 i (by omega)]
    by_cases e : r = row
    · rw [if_pos e, h.one, gm_one _ ht, Nat.xor_self]
    · rw [if_neg e]; exact h.zer r (by omega) h2 h3
theorem gr_skip {M0 M : Mx} {k i row : Nat} (h : Gr M0 k M i row) (h0 : row = i ∨ M row i = 0) : Gr M0 k M i (row + 1) :=
  ⟨h.toGs, h.one, fun r h1 h2 h3 => by
    by_cases e : r = row
    · subst e; rcases h0 with h0 | h0
      · exact absurd h0 h3
      · exact h0
    · exact h.zer r (by omega) h2 h3⟩
theorem gr_end {M0 M : Mx} {k i : Nat} (h : Gr M0 k M i 4) (hi : i < 4) : Gs M0 k M (i + 1) :=
  ⟨h.el, h.sol, h.hom, fun j r hj hr => by
    by_cases e : j = i
    · subst e
      by_cases e2 : r = j
      · rw [if_pos e2, e2]; exact h.one
      · rw [if_neg e2]; exact h.zer r hr hr e2
    · exact h.unit j r (by omega) hr⟩
theorem gs_start {M : Mx} {k : Nat} (h : EM M) : Gs M k M 0 := ⟨h, fun _ _ => Iff.rfl, fun _ _ => Iff.rfl, fun j _ h => absurd h (by omega)⟩
/-- What solve says. -/
def SolvR (M0 : Mx) (k : Nat) (b : Bool) (M : Mx) : Prop :=
  (b = true → EM M ∧ ∀ x, EX x → (Sol M0 k x ↔ ∀ j, j < k → x j = M j 4)) ∧ (b = false → (∀ x, EX x → ¬ Sol M0 k x) ∨ ∃ x, EX x ∧ Hom M0 k x ∧ ∃ j, j < k ∧ x j ≠ 0)
/-- No pivot: the columns are not independent. -/
theorem gs_none {M0 M : Mx} {k i : Nat} (h : Gs M0 k M i) (hk : k ≤ 4) (hi : i < k) (h0 : ∀ r, i ≤ r → r < 4 → M r i = 0) : SolvR M0 k false M := by
  refine ⟨(fun h => by cases h), fun _ => .inr ⟨fun j => if j < i then M j i else if j = i then 1 else 0, fun j => ?_, ?_, i, hi, ?_⟩⟩
  · show (if j < i then M j i else if j = i then 1 else 0) < 64
    split
    · exact h.el j i (by omega) (by omega)
    · split <;> omega
  · refine (h.hom _ fun j => ?_).1 fun r hr => ?_
    · show (if j < i then M j i else if j = i then 1 else 0) < 64
      split
      · exact h.el j i (by omega) (by omega)
      · split <;> omega
    · unfold dot
      have e : ∀ j, j < k → gm (M r j) (if j < i then M j i else if j = i then 1 else 0) = (if j = r ∧ r < i then M r i else 0) ^^^ (if j = i then M r i else 0) := fun j hj => by
        by_cases e1 : j < i
        · rw [if_pos e1, h.unit j r e1 hr, if_neg (show ¬ j = i by omega), Nat.xor_zero]
          by_cases e2 : r = j
          · subst e2; rw [if_pos rfl, if_pos ⟨rfl, e1⟩, one_gm _ (h.el r i hr (by omega))]
          · rw [if_neg e2, gm_zl, if_neg (by omega)]
        · rw [if_neg e1]
          by_cases e2 : j = i
          · subst e2; rw [if_pos rfl, if_pos rfl, gm_one _ (h.el r j hr (by omega)), if_neg (by omega), Nat.zero_xor]
          · rw [if_neg e2, if_neg e2, gm_zr, if_neg (by omega)]; rfl
      rw [xs_congr e, xs_xor, xs_one (i := i) (f := fun j => if j = i then M r i else 0) hi (fun j _ hj => if_neg hj)]
      show _ ^^^ (if i = i then M r i else 0) = 0
      rw [if_pos rfl]
      by_cases e3 : r < i
      · rw [xs_one (i := r) (f := fun j => if j = r ∧ r < i then M r i else 0) (by omega) (fun j _ hj => if_neg (fun h => hj h.1))]
        show (if r = r ∧ r < i then M r i else 0) ^^^ _ = 0
        rw [if_pos ⟨rfl, e3⟩, Nat.xor_self]
      · rw [xs_zero fun j _ => if_neg (fun h => e3 h.2), h0 r (by omega) hr]; rfl
  · show (if i < i then M i i else if i = i then 1 else 0) ≠ 0
    rw [if_neg (by omega), if_pos rfl]; omega
theorem gs_dot {M0 M : Mx} {k : Nat} (h : Gs M0 k M k) (x : Nat → Nat) (hx : EX x) {r : Nat} (hr : r < 4) : dot M k r x = if r < k then x r else 0 := by
  unfold dot
  have e : ∀ j, j < k → gm (M r j) (x j) = if j = r then x r else 0 := fun j hj => by
    rw [h.unit j r hj hr]
    by_cases e : r = j
    · subst e; rw [if_pos rfl, if_pos rfl, one_gm _ (hx r)]
    · rw [if_neg e, gm_zl, if_neg (Ne.symm e)]
  rw [xs_congr e]
  by_cases e2 : r < k
  · rw [if_pos e2, xs_one (i := r) (f := fun j => if j = r then x r else 0) e2 (fun j _ hj => if_neg hj)]
    show (if r = r then x r else 0) = x r
    rw [if_pos rfl]
  · rw [if_neg e2]; exact xs_zero fun j hj => if_neg (by omega)
theorem gs_no {M0 M : Mx} {k row : Nat} (h : Gs M0 k M k) (hk : k ≤ row) (hr : row < 4) (h0 : M row 4 ≠ 0) : SolvR M0 k false M :=
  ⟨(fun h => by cases h), fun _ => .inl fun x hx hs => by
    have := (h.sol x hx).2 hs row hr
    rw [gs_dot h x hx hr, if_neg (by omega)] at this
    exact h0 this.symm⟩
theorem gs_yes {M0 M : Mx} {k : Nat} (h : Gs M0 k M k) (hk : k ≤ 4) (h0 : ∀ r, k ≤ r → r < 4 → M r 4 = 0) : SolvR M0 k true M :=
  ⟨fun _ => ⟨h.el, fun x hx => by
    rw [← h.sol x hx]
    constructor
    · intro hs j hj
      have := hs j (by omega)
      rw [gs_dot h x hx (by omega), if_pos hj] at this; exact this
    · intro hx2 r hr
      rw [gs_dot h x hx hr]
      by_cases e : r < k
      · rw [if_pos e]; exact hx2 r e
      · rw [if_neg e]; exact (h0 r (by omega) hr).symm⟩, (fun h => by cases h)⟩
/-! the equations in memory -/
def mc (M : Mx) : List Value := (List.range 20).map fun k => .int .u8 ((M (k / 5) (k % 5) : Nat) : Int)
def rowV (f : Nat → Nat) : List Value := (List.range 5).map fun c => .int .u8 ((f c : Nat) : Int)
theorem mc_len (M : Mx) : (mc M).length = 20 := by simp [mc]
theorem rowV_len (f : Nat → Nat) : (rowV f).length = 5 := by simp [rowV]
theorem rowV_one (f : Nat → Nat) : (rowV f).all (·.oneCell') = true := by simp [rowV, List.range_succ, Value.oneCell']
theorem mc_get (M : Mx) {k : Nat} (h : k < 20) : (mc M)[k]? = some (.int .u8 ((M (k / 5) (k % 5) : Nat) : Int)) := by unfold mc; rw [List.getElem?_map, List.getElem?_range h]; rfl
theorem mc_at (M : Mx) {r c : Nat} (hr : r < 4) (hc : c < 5) : (mc M)[r * 5 + c * 1]? = some (.int .u8 ((M r c : Nat) : Int)) := by
  rw [mc_get M (by omega), show (r * 5 + c * 1) / 5 = r by omega, show (r * 5 + c * 1) % 5 = c by omega]
theorem mc_ext {M M' : Mx} (h : ∀ r c, r < 4 → c < 5 → M r c = M' r c) : mc M = mc M' := by
  unfold mc
  refine List.map_congr_left fun k hk => ?_
  have := List.mem_range.1 hk
  rw [h _ _ (by omega) (by omega)]
theorem mc_set (M : Mx) {r c : Nat} (v : Nat) (hc : c < 5) : (mc M).set (r * 5 + c * 1) (.int .u8 (v : Int)) = mc (upd M r c v) := by
  apply List.ext_getElem?
  intro k
  rcases Nat.lt_or_ge k 20 with h | h
  · rw [List.getElem?_set, mc_len, mc_get _ h, mc_get _ h]
    unfold upd
    by_cases e : r * 5 + c * 1 = k
    · rw [if_pos e, if_pos (by omega), if_pos ⟨by omega, by omega⟩]
    · rw [if_neg e, if_neg (fun h2 => e (by omega))]
  · rw [List.getElem?_eq_none (by rw [List.length_set, mc_len]; exact h), List.getElem?_eq_none (by rw [mc_len]; exact h)]
theorem mc_zero : List.replicate 20 (Value.int .u8 0) = mc (fun _ _ => 0) := by
  apply List.ext_getElem?
  intro k
  rcases Nat.lt_or_ge k 20 with h | h
  · rw [mc_get _ h, List.getElem?_replicate_of_lt h]; rfl
  · rw [List.getElem?_eq_none (by simpa using h), List.getElem?_eq_none (by rw [mc_len]; exact h)]
theorem mc_row (M : Mx) {r : Nat} (hr : r < 4) : ((mc M).drop (r * 5)).take 5 = rowV (M r) := by
  apply List.ext_getElem?
  intro k
  rcases Nat.lt_or_ge k 5 with h | h
  · rw [List.getElem?_take_of_lt h, List.getElem?_drop, mc_get _ (by omega)]
    unfold rowV
    rw [List.getElem?_map, List.getElem?_range h, show (r * 5 + k) / 5 = r by omega, show (r * 5 + k) % 5 = k by omega]; rfl
  · rw [List.getElem?_eq_none (by rw [List.length_take]; omega), List.getElem?_eq_none (by rw [rowV_len]; exact h)]
theorem mc_put (M : Mx) {r : Nat} (f : Nat → Nat) (hr : r < 4) : (mc M).take (r * 5) ++ rowV f ++ (mc M).drop (r * 5 + 5) = mc (updR M r f) := by
  apply List.ext_getElem?
  intro k
  have h1 : ((mc M).take (r * 5)).length = r * 5 := by rw [List.length_take, mc_len]; omega
  rcases Nat.lt_or_ge k 20 with h | h
  · rw [mc_get _ h]
    unfold updR
    by_cases e1 : k < r * 5
    · rw [List.append_assoc, List.getElem?_append_left (by rw [h1]; exact e1), List.getElem?_take_of_lt e1, mc_get _ h, if_neg (by omega)]
    · by_cases e2 : k < r * 5 + 5
      · rw [List.getElem?_append_left (by rw [List.length_append, h1, rowV_len]; exact e2), List.getElem?_append_right (by rw [h1]; omega), h1]
        unfold rowV
        rw [List.getElem?_map, List.getElem?_range (by omega), if_pos (by omega), show k % 5 = k - r * 5 by omega]; rfl
      · rw [List.getElem?_append_right (by rw [List.length_append, h1, rowV_len]; omega), List.length_append, h1, rowV_len, List.getElem?_drop, show r * 5 + 5 + (k - (r * 5 + 5)) = k by omega, mc_get _ h, if_neg (by omega)]
  · rw [List.getElem?_eq_none (by rw [List.length_append, List.length_append, h1, rowV_len, List.length_drop, mc_len]; omega), List.getElem?_eq_none (by rw [mc_len]; exact h)]
section
variable {P : Program} {ops : Array Oper} {Q : Exit → Act → World → Prop} {n : Nat} {l : List Oper} {S : Slots} {w w' : World} {o : Oper} {d g : Nat}
/-- A row of the equations is loaded. -/
theorem Ev.ldRow {T r : Nat} {t : TypeId} {D : TypeDesc} {x : Operand} {M : Mx} (ho : o.op = .load T x) (hx : ev S x = some (.pointer (some ((⟨g, 0, none⟩ : Addr).add (r * 5))))) (ht : P.underlying T = some D) (hD : aggD D = true) (hs : sizeP P T = some 5) (hb : Blk w g t (mc M)) (hr : r < 4) : Ev P n o S w (.agg (rowV (M r)).toArray) :=
  Ev.ldAgg ho hx ht hD hs (rowV_len _) fun j u hu => by
    rw [add_of_add]
    refine hb.cells _ u ?_
    rw [← mc_row M hr] at hu
    have hj : j < 5 := by
      have := (List.getElem?_eq_some_iff.1 hu).1
      rw [List.length_take] at this; omega
    rw [List.getElem?_take_of_lt hj, List.getElem?_drop] at hu; exact hu
/-- A row of the equations is written. -/
theorem RG.stRow {T r : Nat} {t : TypeId} {x y : Operand} {M : Mx} (f : Nat → Nat) (hw : wantS ops S o = some true) (hd : o.dst = none) (ho : o.op = .store T x y) (hx : ev S x = some (.pointer (some ((⟨g, 0, none⟩ : Addr).add (r * 5))))) (hy : ev S y = some (.agg (rowV f).toArray))
    (hs : sizeP P T = some 5) (hb : Blk w g t (mc M)) (hr : r < 4)
    (kk : ∀ w', Wr w w' g → Blk w' g t (mc (updR M r f)) → RG P ops Q n l S w') : RG P ops Q n (o :: l) S w := by
  have hst := run_storeCells_at P g (r * 5) t (rowV f) 0 (mc M).toArray w hb (by rw [rowV_len, List.size_toArray, mc_len]; omega) (fun u hu => List.all_eq_true.1 (rowV_one f) u hu)
  simp only [Nat.add_zero, rowV_len] at hst
  rw [mc_put M f hr] at hst
  refine RG.run0 (w' := w.setRow g (mc (updR M r f)).toArray) hw hd (fun a ha => ?_) (kk _ (wr_setRow _ _ _) (blk_setRow hb))
  simp only [execOp, ho]; rw [ha.eval hx, ha.eval hy]
  rw [add_at]
  have hc : (Value.agg (rowV f).toArray).cells = (rowV f).toArray := rfl
  simp [Instr.storeAt, Instr.sureAddr, storeVar, run_sizeOf hs, hc, rowV_len, hst]
end
end Go.Proofs.YtgjnchjkjdnidaaGreat

/- Plain: the equations of what was added at some places; the places that are erased. -/
namespace Go.Proofs.YtgjnchjkjdnidaaGreat
open Go.RowKit
def eqM (n : Nat) (P sL : List Nat) : Mx := fun r c => if c = 4 then cf sL r else if c < P.length then pw ((r + 1) * (n - 1 - cf P c) % 63) else 0
def stO (n : Nat) (P sL : List Nat) (row : Nat) : Mx := fun r c => if r < row then eqM n P sL r c else 0
def stI (n : Nat) (P sL : List Nat) (row j : Nat) : Mx := fun r c => if r < row ∨ r = row ∧ c < j then eqM n P sL r c else 0
theorem stO_zero (n : Nat) (P sL : List Nat) : stO n P sL 0 = fun _ _ => 0 := by funext r c; unfold stO; rw [if_neg (by omega)]
theorem stO_end (n : Nat) (P sL : List Nat) : mc (stO n P sL 4) = mc (eqM n P sL) := mc_ext fun r c hr _ => by unfold stO; rw [if_pos hr]
theorem stI_zero (n : Nat) (P sL : List Nat) (row : Nat) : stI n P sL row 0 = stO n P sL row := by
  funext r c; unfold stI stO
  by_cases h : r < row
  · rw [if_pos (.inl h), if_pos h]
  · rw [if_neg (by omega), if_neg h]
theorem stI_more {n : Nat} {P sL : List Nat} {row j p : Nat} (hP : P.length ≤ 4) (hp : P[j]? = some p) : upd (stI n P sL row j) row j (pw ((row + 1) * (n - 1 - p) % 63)) = stI n P sL row (j + 1) := by
  have hj := (List.getElem?_eq_some_iff.1 hp).1
  have hc := cf_some hp
  funext r c
  unfold upd stI
  by_cases e : r = row ∧ c = j
  · rw [if_pos e, if_pos (by omega)]
    obtain ⟨rfl, rfl⟩ := e
    unfold eqM
    rw [if_neg (by omega), if_pos hj, hc]
  · rw [if_neg e]
    by_cases h : r < row ∨ r = row ∧ c < j
    · rw [if_pos h, if_pos (by omega)]
    · rw [if_neg h, if_neg (by omega)]
theorem stI_end {n : Nat} {P sL : List Nat} {row : Nat} : mc (upd (stI n P sL row P.length) row 4 (cf sL row)) = mc (stO n P sL (row + 1)) := mc_ext fun r c _ hc => by
  unfold upd stI stO
  by_cases e : r = row ∧ c = 4
  · rw [if_pos e, if_pos (by omega)]
    obtain ⟨rfl, rfl⟩ := e
    unfold eqM; rw [if_pos rfl]
  · rw [if_neg e]
    by_cases h : r < row ∨ r = row ∧ c < P.length
    · rw [if_pos h, if_pos (by omega)]
    · rw [if_neg h]
      by_cases h2 : r < row + 1
      · rw [if_pos h2]
        unfold eqM
        rw [if_neg (by omega), if_neg (by omega)]
      · rw [if_neg h2]
theorem pw64 (n : Nat) : pw (n % 63) < 64 := (pw_lt _ (Nat.mod_lt _ (by omega))).2
theorem eqM_el {n : Nat} {P sL : List Nat} (h : El sL) : EM (eqM n P sL) := fun r c _ _ => by
  unfold eqM; split
  · exact h.cf r
  · split
    · exact pw64 _
    · decide
def goneC (er : List Nat) : List Value := (List.range 63).map fun i => .bool (decide (i ∈ er))
theorem goneC_len (er : List Nat) : (goneC er).length = 63 := by simp [goneC]
theorem goneC_at (er : List Nat) {i : Nat} (h : i < 63) : (goneC er)[i]? = some (.bool (decide (i ∈ er))) := by unfold goneC; rw [List.getElem?_map, List.getElem?_range h]; rfl
theorem goneC_nil : List.replicate 63 (Value.bool false) = goneC [] := by
  apply List.ext_getElem?
  intro i
  rcases Nat.lt_or_ge i 63 with h | h
  · rw [goneC_at _ h, List.getElem?_replicate_of_lt h]; simp
  · rw [List.getElem?_eq_none (by simpa using h), List.getElem?_eq_none (by rw [goneC_len]; exact h)]
theorem goneC_set (er : List Nat) (p : Nat) : (goneC er).set (p * 1) (.bool true) = goneC (er ++ [p]) := by
  apply List.ext_getElem?
  intro i
  rcases Nat.lt_or_ge i 63 with h | h
  · rw [List.getElem?_set, goneC_len, goneC_at _ h, goneC_at _ h]
    by_cases e : p * 1 = i
    · rw [if_pos e, if_pos (by omega), decide_eq_true (show i ∈ er ++ [p] by simp; omega)]
    · rw [if_neg e]
      congr 2
      rw [decide_eq_decide]
      simp; omega
  · rw [List.getElem?_eq_none (by rw [List.length_set, goneC_len]; exact h), List.getElem?_eq_none (by rw [goneC_len]; exact h)]
end Go.Proofs.YtgjnchjkjdnidaaGreat

/- Walks (SA). Written by program. -/
namespace Go.Proofs.YtgjnchjkjdnidaaGreat
open Go.RowKit
set_option maxRecDepth 100000 in
set_option maxHeartbeats 1000000 in
theorem clone_ret (u : Value) (l : List Nat) (w : World) (hl : RdL w 1 encN u l) (hlen : l.length ≤ 100000) :
    Ret Tryz.prog 59 [u] w (fun v w' => Own w' w.heap.size 5 1 encN v l ∧ Ex w w') := by
  obtain ⟨uA, uC, rfl⟩ := hl.shape
  have hB0 : Ex w w := Ex.rfl_ _
  refine Ret.of Tryz.func59 rfl Tryz.ntmps59 rfl ?_
  refine CW.seq ?_
  refine CW.region ?_
  refine RG.vl rfl rfl rfl (Ev.assign rfl rfl) ?_
  refine RG.done ?_
  refine QW.then_ ?_
  refine CW.seq ?_
  refine CW.seq ?_
  refine CW.region ?_
  refine RG.vl rfl rfl rfl (Ev.move rfl rfl) ?_
  refine RG.vl rfl rfl rfl (Ev.eqNil rfl rfl rfl Tryz.underlying58) ?_
  refine RG.done ?_
  refine QW.then_ ?_
  refine CW.cond rfl (fun hc1 => ?_) (fun hc1 => ?_)
  · refine CW.seq ?_
    refine CW.region ?_
    refine RG.vl rfl rfl rfl (Ev.assign rfl rfl) ?_
    refine RG.done ?_
    refine QW.then_ ?_
    refine CW.ret ?_
    refine QW.thenRet ?_
    refine QW.ret1 rfl rfl ?_
    have hB := hB0
    obtain rfl : uA = none := Option.isNone_iff_eq_none.1 (by assumption)
    have hl0 := RdL.of_none hl
    subst hl0
    exact ⟨Own.nil_ _ _ _ _ _, hB⟩
  · refine CW.skip ?_
    refine QW.then_ ?_
    refine CW.seq ?_
    have hn0 : ([] : List Nat).length = 0 := rfl
    refine CW.region ?_
    refine RG.build0O (enc := encN) rfl rfl rfl rfl rfl Tryz.underlying58 sz_5 (fun v2 wk3 hxwk3 hown4 hnew5 => ?_)
    have hE6 := hxwk3
    refine RG.vl rfl rfl rfl (Ev.move rfl rfl) ?_
    refine RG.appO rfl rfl rfl rfl rfl rfl rfl Tryz.underlying58 inf_5 rfl rfl encN_len (fun _ => rfl) hown4 ((hl.ext hE6)) (by simp only [maxLen]; omega) (by omega) (hE6.size) (fun v7 wa8 hown9 hgr10 hat11 => ?_)
    replace hE6 := own_block hown4 hE6 hgr10 (Nat.le_refl _) hE6.size
    refine RG.vl rfl rfl rfl (Ev.assign rfl rfl) ?_
    refine RG.done ?_
    refine QW.then_ ?_
    refine CW.ret ?_
    refine QW.ret1 rfl rfl ?_
    have hB := (Ex.tr hB0 hE6)
    exact ⟨(show Own _ _ _ _ _ _ l from hown9).low (by have := hB0.size; omega), hB⟩

set_option maxRecDepth 100000 in
set_option maxHeartbeats 1000000 in
theorem cloneI_ret (u : Value) (l : List Nat) (w : World) (hl : RdL w 1 encZ u l) (hlen : l.length ≤ 100000) :
    Ret Tryz.prog 111 [u] w (fun v w' => Own w' w.heap.size 3 1 encZ v l ∧ Ex w w') := by
  obtain ⟨uA, uC, rfl⟩ := hl.shape
  have hB0 : Ex w w := Ex.rfl_ _
  refine Ret.of Tryz.func111 rfl Tryz.ntmps111 rfl ?_
  refine CW.seq ?_
  refine CW.region ?_
  refine RG.vl rfl rfl rfl (Ev.assign rfl rfl) ?_
  refine RG.done ?_
  refine QW.then_ ?_
  refine CW.seq ?_
  refine CW.seq ?_
  refine CW.region ?_
  refine RG.vl rfl rfl rfl (Ev.move rfl rfl) ?_
  refine RG.vl rfl rfl rfl (Ev.eqNil rfl rfl rfl Tryz.underlying29) ?_
  refine RG.done ?_
  refine QW.then_ ?_
  refine CW.cond rfl (fun hc1 => ?_) (fun hc1 => ?_)
  · refine CW.seq ?_
    refine CW.region ?_
    refine RG.vl rfl rfl rfl (Ev.assign rfl rfl) ?_
    refine RG.done ?_
    refine QW.then_ ?_
    refine CW.ret ?_
    refine QW.thenRet ?_
    refine QW.ret1 rfl rfl ?_
    have hB := hB0
    obtain rfl : uA = none := Option.isNone_iff_eq_none.1 (by assumption)
    have hl0 := RdL.of_none hl
    subst hl0
    exact ⟨Own.nil_ _ _ _ _ _, hB⟩
  · refine CW.skip ?_
    refine QW.then_ ?_
    refine CW.seq ?_
    have hn0 : ([] : List Nat).length = 0 := rfl
    refine CW.region ?_
    refine RG.build0O (enc := encZ) rfl rfl rfl rfl rfl Tryz.underlying29 sz_3 (fun v2 wk3 hxwk3 hown4 hnew5 => ?_)
    have hE6 := hxwk3
    refine RG.vl rfl rfl rfl (Ev.move rfl rfl) ?_
    refine RG.appO rfl rfl rfl rfl rfl rfl rfl Tryz.underlying29 inf_3 rfl rfl encZ_len (fun _ => rfl) hown4 ((hl.ext hE6)) (by simp only [maxLen]; omega) (by omega) (hE6.size) (fun v7 wa8 hown9 hgr10 hat11 => ?_)
    replace hE6 := own_block hown4 hE6 hgr10 (Nat.le_refl _) hE6.size
    refine RG.vl rfl rfl rfl (Ev.assign rfl rfl) ?_
    refine RG.done ?_
    refine QW.then_ ?_
    refine CW.ret ?_
    refine QW.ret1 rfl rfl ?_
    have hB := (Ex.tr hB0 hE6)
    exact ⟨(show Own _ _ _ _ _ _ l from hown9).low (by have := hB0.size; omega), hB⟩

set_option maxRecDepth 100000 in
set_option maxHeartbeats 1000000 in
theorem reverse_ret (w0 : World) (x : Value) (l : List Nat) (w : World) (hx0 : Ex w0 w) (hown : Own w w0.heap.size 5 1 encN x l) (hlen : l.length ≤ 100000) :
    Ret Tryz.prog 104 [x] w (fun v w' => v = .tuple #[] ∧ Own w' w0.heap.size 5 1 encN x l.reverse ∧ Ex w0 w') := by
  have hB0 : Ex w w := Ex.rfl_ _
  refine Ret.of Tryz.func104 rfl Tryz.ntmps104 rfl ?_
  refine CW.seq ?_
  refine CW.region ?_
  refine RG.vl rfl rfl rfl (Ev.move rfl rfl) ?_
  refine RG.vl rfl rfl rfl (Ev.lenL rfl rfl rfl Tryz.underlying58 ((hown.rdl encN_len))) ?_
  refine RG.vl rfl rfl rfl (Ev.subI rfl rfl rfl (by omega)) ?_
  refine RG.vl rfl rfl rfl (Ev.assign rfl rfl) ?_
  refine RG.vl rfl rfl rfl (Ev.assign rfl rfl) ?_
  refine RG.done ?_
  refine QW.then_ ?_
  refine CW.block ?_
  refine CW.loop1 [(0, _)] ⟨rfl, trivial⟩ (fun (i : Nat) => [(2, .int .i64 (i : Int)), (3, .int .i64 ((l.length : Int) - 1 - (i : Int)))]) (fun i w' => (2 * i ≤ l.length + 1 ∧ Own w' w0.heap.size 5 1 encN x (rvS l i)) ∧ Ex w0 w') (fun i => l.length - i) (0) ⟨rfl, congrArg (fun x => some (Value.int .i64 x)) (by omega), trivial⟩ ⟨⟨by omega, by rw [rvS_zero]; exact hown⟩, hx0⟩ ?_
  rintro i wl1 ⟨⟨hi, hoL⟩, hxwl1⟩
  refine CW.sub (S' := [(2, _), (3, _), (0, _)]) ⟨rfl, rfl, rfl, trivial⟩ ?_
  refine CW.seq ?_
  refine CW.seq ?_
  refine CW.region ?_
  refine RG.vl rfl rfl rfl (Ev.move rfl rfl) ?_
  refine RG.vl rfl rfl rfl (Ev.move rfl rfl) ?_
  refine RG.vl rfl rfl rfl (Ev.lss rfl rfl rfl) ?_
  refine RG.done ?_
  refine QW.then_ ?_
  refine CW.condP rfl (fun hc2 => ?_) (fun hc2 => ?_)
  · refine CW.skip ?_
    refine QW.then_ ?_
    refine CW.seq ?_
    refine CW.block ?_
    obtain ⟨j, hj⟩ : ∃ j, j = l.length - 1 - i := ⟨_, rfl⟩
    have hji : 2 * i + 1 < l.length := by omega
    have ha1 : (rvS l i)[i]? = some (cf l i) := by rw [rvS_at (by omega), if_neg (by omega)]
    have ha2 : (rvS l i)[j]? = some (cf l j) := by rw [rvS_at (by omega), if_neg (by omega)]
    have hcj : ((l.length : Int) - 1 - (i : Int)) = (j : Int) := by omega
    rw [hcj]
    have hrl := rvS_len l i
    have ha3 : ((rvS l i).set i (cf l j))[j]? = some (cf l j) := by rw [List.getElem?_set_ne (by omega)]; exact ha2
    refine CW.draw [13, 15] (.ex) 16 rfl mixed (fun wd3 hxwd3 => ?_)
    replace hxwl1 := Ex.tr hxwl1 hxwd3
    have hE4 := hxwd3
    refine AG.takeW 0 rfl (by kernel_rfl) (by kernel_rfl) rfl rfl rfl (fun _ => Ev.move rfl rfl) ?_
    refine AG.takeW 1 rfl (by kernel_rfl) (by kernel_rfl) rfl rfl rfl (fun _ => Ev.move rfl rfl) ?_
    refine AG.takeW 2 rfl (by kernel_rfl) (by kernel_rfl) rfl rfl rfl (fun _ => Ev.move rfl rfl) ?_
    refine AG.takeW 3 rfl (by kernel_rfl) (by kernel_rfl) rfl rfl rfl (fun _ => Ev.move rfl rfl) ?_
    refine AG.takeW 4 rfl (by kernel_rfl) (by kernel_rfl) rfl rfl rfl (fun _ => Ev.move rfl rfl) ?_
    refine AG.takeW 5 rfl (by kernel_rfl) (by kernel_rfl) rfl rfl rfl (fun _ => Ev.move rfl rfl) ?_
    refine AG.idxO _ 6 rfl (by kernel_rfl) (by kernel_rfl) rfl rfl rfl rfl rfl rfl Tryz.underlying58 sz_5 encN_len ((Own.ext hoL hE4)) (ha2) (fun g6 hg6 hBg6 hp5b hp5 => ?_)
    refine AG.take 7 rfl (by kernel_rfl) (by kernel_rfl) rfl rfl rfl (fun wq hq => Ev.ld0 rfl rfl Tryz.underlying5 rfl (hp5.ext hq hp5b) (rfl)) ?_
    refine AG.takeW 8 rfl (by kernel_rfl) (by kernel_rfl) rfl rfl rfl (fun _ => Ev.move rfl rfl) ?_
    refine AG.takeW 9 rfl (by kernel_rfl) (by kernel_rfl) rfl rfl rfl (fun _ => Ev.move rfl rfl) ?_
    refine AG.idxO _ 10 rfl (by kernel_rfl) (by kernel_rfl) rfl rfl rfl rfl rfl rfl Tryz.underlying58 sz_5 encN_len ((Own.ext hoL hE4)) (ha1) (fun g8 hg8 hBg8 hp7b hp7 => ?_)
    refine AG.take 11 rfl (by kernel_rfl) (by kernel_rfl) rfl rfl rfl (fun wq hq => Ev.ld0 rfl rfl Tryz.underlying5 rfl (hp7.ext hq hp7b) (rfl)) ?_
    refine AG.idxO _ 12 rfl (by kernel_rfl) (by kernel_rfl) rfl rfl rfl rfl rfl rfl Tryz.underlying58 sz_5 encN_len ((Own.ext hoL hE4)) (ha1) (fun g10 hg10 hBg10 hp9b hp9 => ?_)
    refine AG.only 13 rfl (by kernel_rfl) ?_
    refine RG.stOw0 (g := g10) (cf l j) rfl rfl rfl rfl rfl sz_5 rfl (fun _ => rfl) (Own.ext hoL hE4) hg10 (ha1) rfl (rfl) (fun ws12 hwws12 hown13 => ?_)
    replace hxwl1 := Wr.below hxwl1 hwws12 hBg10
    refine RG.done ?_
    refine QW.an (fun h => by simp at h) ?_
    refine AG.idxO _ 14 rfl (by kernel_rfl) (by kernel_rfl) rfl rfl rfl rfl rfl rfl Tryz.underlying58 sz_5 encN_len (hown13) (ha3) (fun g15 hg15 hBg15 hp14b hp14 => ?_)
    refine AG.only 15 rfl (by kernel_rfl) ?_
    refine RG.stOw0 (g := g15) (cf l i) rfl rfl rfl rfl rfl sz_5 rfl (fun _ => rfl) hown13 hg15 (ha3) rfl (rfl) (fun ws17 hwws17 hown18 => ?_)
    replace hxwl1 := Wr.below hxwl1 hwws17 hBg15
    refine RG.done ?_
    refine QW.an (fun h => by simp at h) ?_
    refine AG.done (by kernel_rfl) ?_
    refine QW.sub (S' := [(0, _), (2, _), (3, _)]) ⟨rfl, rfl, rfl, trivial⟩ ?_
    refine QW.blockN ?_
    refine QW.then_ ?_
    refine CW.region ?_
    refine RG.vl rfl rfl rfl (Ev.move rfl rfl) ?_
    refine RG.vl rfl rfl rfl (Ev.addI rfl rfl rfl (by omega)) ?_
    refine RG.vl rfl rfl rfl (Ev.move rfl rfl) ?_
    refine RG.vl rfl rfl rfl (Ev.subI rfl rfl rfl (by omega)) ?_
    refine RG.vl rfl rfl rfl (Ev.assign rfl rfl) ?_
    refine RG.vl rfl rfl rfl (Ev.assign rfl rfl) ?_
    refine RG.done ?_
    refine QW.round1 (i + 1) ⟨rfl, congrArg (fun x => some (Value.int .i64 x)) (by omega), trivial⟩ ⟨rfl, trivial⟩ ⟨⟨by omega, by rw [← rvS_step hji, ← hj]; exact hown18⟩, hxwl1⟩ (by omega)
  · refine CW.exit ?_
    refine QW.thenExit ?_
    refine QW.thenExit ?_
    refine QW.blockHit ?_
    refine QW.end0 rfl ?_
    rw [rvS_end (by omega)] at hoL
    exact ⟨rfl, hoL, hxwl1⟩

set_option maxRecDepth 100000 in
set_option maxHeartbeats 1000000 in
theorem areE1_ret (a : Nat) (w : World)  :
    Ret Tryz.prog 97 [.int .u8 (a : Int)] w (fun v w' => v = .bool (decide ((64 : Int) ≤ (a : Int))) ∧ Ex w w') := by
  have hB0 : Ex w w := Ex.rfl_ _
  refine Ret.of Tryz.func97 rfl Tryz.ntmps97 rfl ?_
  refine CW.seq ?_
  refine CW.region ?_
  refine RG.vl rfl rfl rfl (Ev.assign rfl rfl) ?_
  refine RG.done ?_
  refine QW.then_ ?_
  refine CW.seq ?_
  refine CW.region ?_
  refine RG.vl rfl rfl rfl (Ev.move rfl rfl) ?_
  refine RG.vl rfl rfl rfl (Ev.geq rfl rfl rfl) ?_
  refine RG.vl rfl rfl rfl (Ev.assign rfl rfl) ?_
  refine RG.done ?_
  refine QW.then_ ?_
  refine CW.ret ?_
  refine QW.ret1 rfl rfl ?_
  have hB := hB0
  exact ⟨rfl, hB⟩

set_option maxRecDepth 100000 in
set_option maxHeartbeats 1000000 in
theorem indexF_ret (u : Value) (l : List Nat) (w : World) (hl : RdL w 1 encN u l) (hlen : l.length ≤ 100000) :
    Ret Tryz.prog 122 [u, .func (.func 97) #[] #[]] w (fun v w' => ∃ k : Int, v = .int .i64 k ∧ (0 ≤ k ↔ areE l = false) ∧ Ex w w') := by
  have hB0 : Ex w w := Ex.rfl_ _
  refine Ret.of Tryz.func122 rfl Tryz.ntmps122 rfl ?_
  refine CW.seq ?_
  refine CW.region ?_
  refine RG.vl rfl rfl rfl (Ev.assign rfl rfl) ?_
  refine RG.done ?_
  refine QW.then_ ?_
  refine CW.seq ?_
  refine CW.seq ?_
  refine CW.region ?_
  refine RG.vl rfl rfl rfl (Ev.move rfl rfl) ?_
  refine RG.vl rfl rfl rfl (Ev.lenL rfl rfl rfl Tryz.underlying58 (hl)) ?_
  refine RG.vl rfl rfl rfl (Ev.move rfl rfl) ?_
  refine RG.done ?_
  refine QW.then_ ?_
  refine CW.block ?_
  refine CW.loop1 [(0, _), (1, _), (7, _)] ⟨rfl, rfl, rfl, trivial⟩ (fun (i : Nat) => [(8, .int .i64 i)]) (fun i w' => (i ≤ l.length ∧ ∀ j a, j < i → l[j]? = some a → a < 64) ∧ Ex w w') (fun i => l.length - i) (0) ⟨rfl, trivial⟩ ⟨⟨Nat.zero_le _, fun j a h => absurd h (by omega)⟩, hB0⟩ ?_
  rintro i wl1 ⟨⟨hi, hall⟩, hxwl1⟩
  refine CW.sub (S' := [(8, _), (0, _), (1, _), (7, _)]) ⟨rfl, rfl, rfl, rfl, trivial⟩ ?_
  refine CW.seq ?_
  refine CW.region ?_
  refine RG.vl rfl rfl rfl (Ev.lss rfl rfl rfl) ?_
  refine RG.done ?_
  refine QW.then_ ?_
  refine CW.seq ?_
  refine CW.condP rfl (fun hc2 => ?_) (fun hc2 => ?_)
  · refine CW.skip ?_
    refine QW.then_ ?_
    refine CW.seq ?_
    refine CW.block ?_
    refine CW.seq ?_
    refine CW.region ?_
    refine RG.vl rfl rfl rfl (Ev.move rfl rfl) ?_
    refine RG.vl rfl rfl rfl (Ev.assign rfl rfl) ?_
    refine RG.done ?_
    refine QW.then_ ?_
    refine CW.seq ?_
    obtain ⟨x, hx⟩ : ∃ x, l[i]? = some x := ⟨_, List.getElem?_eq_getElem (by omega)⟩
    refine CW.region ?_
    refine RG.vl rfl rfl rfl (Ev.move rfl rfl) ?_
    refine RG.vl rfl rfl rfl (Ev.move rfl rfl) ?_
    refine RG.vl rfl rfl rfl (Ev.move rfl rfl) ?_
    refine RG.idxL rfl rfl rfl rfl rfl rfl Tryz.underlying58 sz_5 ((hl.ext hxwl1)) (hx) (fun p3 hp3b hp3 => ?_)
    refine RG.vl rfl rfl rfl (Ev.ld0 rfl rfl Tryz.underlying5 rfl (hp3) (rfl)) ?_
    refine RG.call rfl rfl rfl rfl rfl rfl rfl en_97 (areE1_ret _ _) ?_
    rintro _ w4 ⟨rfl, hx4⟩
    replace hxwl1 := Ex.tr hxwl1 hx4
    have hE5 := hx4
    refine RG.done ?_
    refine QW.then_ ?_
    refine CW.condP rfl (fun hc6 => ?_) (fun hc6 => ?_)
    · refine CW.seq ?_
      refine CW.region ?_
      refine RG.vl rfl rfl rfl (Ev.move rfl rfl) ?_
      refine RG.vl rfl rfl rfl (Ev.assign rfl rfl) ?_
      refine RG.done ?_
      refine QW.then_ ?_
      refine CW.ret ?_
      refine QW.blockR ?_
      refine QW.thenRet ?_
      refine QW.thenRet ?_
      refine QW.blockR ?_
      refine QW.thenRet ?_
      refine QW.ret1 rfl rfl ?_
      have hB := (Ex.tr hB0 hxwl1)
      exact ⟨_, rfl, ⟨fun _ => areE_no hx (by omega), fun _ => by omega⟩, hB⟩
    · refine CW.skip ?_
      refine QW.blockN ?_
      refine QW.then_ ?_
      refine CW.region ?_
      refine RG.vl rfl rfl rfl (Ev.addI rfl rfl rfl (by omega)) ?_
      refine RG.vl rfl rfl rfl (Ev.move rfl rfl) ?_
      refine RG.done ?_
      refine QW.round1 (i + 1) ⟨rfl, trivial⟩ ⟨rfl, rfl, rfl, trivial⟩ ⟨⟨by omega, fun j a hj hja => by rcases Nat.lt_or_ge j i with h | h; exact hall j a h hja; obtain rfl : j = i := (by omega); rw [hx] at hja; injection hja with hja; omega⟩, (Ex.tr hB0 hxwl1)⟩ (by omega)
  · refine CW.exit ?_
    refine QW.thenExit ?_
    refine QW.thenExit ?_
    refine QW.blockHit ?_
    refine QW.then_ ?_
    refine CW.seq ?_
    refine CW.region ?_
    refine RG.vl rfl rfl rfl (Ev.assign rfl rfl) ?_
    refine RG.done ?_
    refine QW.then_ ?_
    refine CW.ret ?_
    refine QW.ret1 rfl rfl ?_
    have hB := (Ex.tr hB0 hxwl1)
    have hy := areE_yes (l := l) (fun j a hj => hall j a (by omega))
    exact ⟨_, rfl, ⟨fun h => absurd h (by decide), fun h => by rw [hy] at h; cases h⟩, hB⟩

set_option maxRecDepth 100000 in
set_option maxHeartbeats 1000000 in
theorem containsF_ret (u : Value) (l : List Nat) (w : World) (hl : RdL w 1 encN u l) (hlen : l.length ≤ 100000) :
    Ret Tryz.prog 96 [u, .func (.func 97) #[] #[]] w (fun v w' => v = .bool (!areE l) ∧ Ex w w') := by
  have hB0 : Ex w w := Ex.rfl_ _
  refine Ret.of Tryz.func96 rfl Tryz.ntmps96 rfl ?_
  refine CW.seq ?_
  refine CW.region ?_
  refine RG.vl rfl rfl rfl (Ev.assign rfl rfl) ?_
  refine RG.done ?_
  refine QW.then_ ?_
  refine CW.seq ?_
  refine CW.region ?_
  refine RG.vl rfl rfl rfl (Ev.move rfl rfl) ?_
  refine RG.vl rfl rfl rfl (Ev.move rfl rfl) ?_
  refine RG.call rfl rfl rfl rfl rfl rfl rfl en_122 (indexF_ret _ l _ (hl) hlen) ?_
  rintro _ w1 ⟨k, rfl, hk, hx1⟩
  have hE2 := hx1
  refine RG.vl rfl rfl rfl (Ev.geq rfl rfl rfl) ?_
  refine RG.vl rfl rfl rfl (Ev.assign rfl rfl) ?_
  refine RG.done ?_
  refine QW.then_ ?_
  refine CW.ret ?_
  refine QW.ret1 rfl rfl ?_
  have hB := (Ex.tr hB0 hE2)
  refine ⟨congrArg Value.bool ?_, hB⟩
  cases h : areE l with
  | true => exact decide_eq_false fun h2 => by have := hk.1 h2; rw [h] at this; cases this
  | false => exact decide_eq_true (hk.2 h)

set_option maxRecDepth 100000 in
set_option maxHeartbeats 1000000 in
theorem areE_ret (u : Value) (l : List Nat) (w : World) (hl : RdL w 1 encN u l) (hlen : l.length ≤ 100000) :
    Ret Tryz.prog 58 [u] w (fun v w' => v = .bool (areE l) ∧ Ex w w') := by
  have hB0 : Ex w w := Ex.rfl_ _
  refine Ret.of Tryz.func58 rfl Tryz.ntmps58 rfl ?_
  refine CW.seq ?_
  refine CW.region ?_
  refine RG.vl rfl rfl rfl (Ev.assign rfl rfl) ?_
  refine RG.done ?_
  refine QW.then_ ?_
  refine CW.seq ?_
  refine CW.region ?_
  refine RG.vl rfl rfl rfl (Ev.move rfl rfl) ?_
  refine RG.call rfl rfl rfl rfl rfl rfl rfl en_96 (containsF_ret _ _ _ (hl) (by omega)) ?_
  rintro _ w1 ⟨rfl, hx1⟩
  have hE2 := hx1
  refine RG.vl rfl rfl rfl (Ev.not rfl rfl) ?_
  refine RG.vl rfl rfl rfl (Ev.assign rfl rfl) ?_
  refine RG.done ?_
  refine QW.then_ ?_
  refine CW.ret ?_
  refine QW.ret1 rfl rfl ?_
  have hB := (Ex.tr hB0 hE2)
  exact ⟨congrArg Value.bool (by cases areE l <;> rfl), hB⟩

set_option maxRecDepth 100000 in
set_option maxHeartbeats 1000000 in
theorem isW_ret (u : Value) (l : List Nat) (w : World) (hl : RdL w 1 encN u l) (hlen : l.length ≤ 100000) :
    Ret Tryz.prog 66 [u] w (fun v w' => v = .bool (isW l) ∧ Ex w w') := by
  have hB0 : Ex w w := Ex.rfl_ _
  refine Ret.of Tryz.func66 rfl Tryz.ntmps66 rfl ?_
  refine CW.seq ?_
  refine CW.region ?_
  refine RG.vl rfl rfl rfl (Ev.assign rfl rfl) ?_
  refine RG.done ?_
  refine QW.then_ ?_
  refine CW.seq ?_
  refine CW.region ?_
  refine RG.vl rfl rfl rfl (Ev.move rfl rfl) ?_
  refine RG.vl rfl rfl rfl (Ev.lenL rfl rfl rfl Tryz.underlying58 (hl)) ?_
  refine RG.vl rfl rfl rfl (Ev.gtr rfl rfl rfl) ?_
  refine RG.vl rfl rfl rfl (Ev.move rfl rfl) ?_
  refine RG.split (d := 6) rfl (fun hg1 => ?_) (fun hg1 => ?_)
  · refine RG.vl rfl rfl rfl (Ev.move rfl rfl) ?_
    refine RG.vl rfl rfl rfl (Ev.lenL rfl rfl rfl Tryz.underlying58 (hl)) ?_
    refine RG.vl rfl rfl rfl (Ev.leq rfl rfl rfl) ?_
    refine RG.vl rfl rfl rfl (Ev.pickT rfl rfl rfl) ?_
    refine RG.vl rfl rfl rfl (Ev.move rfl rfl) ?_
    refine RG.split (d := 11) rfl (fun hg2 => ?_) (fun hg2 => ?_)
    · refine RG.vl rfl rfl rfl (Ev.move rfl rfl) ?_
      refine RG.call rfl rfl rfl rfl rfl rfl rfl en_58 (areE_ret _ _ _ (hl) (by omega)) ?_
      rintro _ w3 ⟨rfl, hx3⟩
      have hE4 := hx3
      refine RG.vl rfl rfl rfl (Ev.pickT rfl rfl rfl) ?_
      refine RG.vl rfl rfl rfl (Ev.assign rfl rfl) ?_
      refine RG.done ?_
      refine QW.sub (S' := [(2, _)]) ⟨rfl, trivial⟩ ?_
      refine QW.then_ ?_
      refine CW.ret ?_
      refine QW.ret1 rfl rfl ?_
      have hB := (Ex.tr hB0 hE4)
      refine ⟨congrArg Value.bool ?_, hB⟩
      unfold isW
      first | (rw [decide_eq_true (show 4 < l.length by omega), decide_eq_true (show l.length ≤ 63 by omega)]; rfl) | (rw [decide_eq_false (show ¬ 4 < l.length by omega)]; rfl) | (rw [decide_eq_false (show ¬ l.length ≤ 63 by omega), Bool.and_false]; rfl)
    · refine RG.pass rfl rfl rfl ?_
      refine RG.pass rfl rfl rfl ?_
      refine RG.vl rfl rfl rfl (Ev.pickF rfl rfl rfl) ?_
      refine RG.vl rfl rfl rfl (Ev.assign rfl rfl) ?_
      refine RG.done ?_
      refine QW.sub (S' := [(2, _)]) ⟨rfl, trivial⟩ ?_
      refine QW.then_ ?_
      refine CW.ret ?_
      refine QW.ret1 rfl rfl ?_
      have hB := hB0
      refine ⟨congrArg Value.bool ?_, hB⟩
      unfold isW
      first | (rw [decide_eq_true (show 4 < l.length by omega), decide_eq_true (show l.length ≤ 63 by omega)]; rfl) | (rw [decide_eq_false (show ¬ 4 < l.length by omega)]; rfl) | (rw [decide_eq_false (show ¬ l.length ≤ 63 by omega), Bool.and_false]; rfl)
  · refine RG.pass rfl rfl rfl ?_
    refine RG.pass rfl rfl rfl ?_
    refine RG.pass rfl rfl rfl ?_
    refine RG.vl rfl rfl rfl (Ev.pickF rfl rfl rfl) ?_
    refine RG.vl rfl rfl rfl (Ev.move rfl rfl) ?_
    refine RG.pass rfl rfl rfl ?_
    refine RG.pass rfl rfl rfl ?_
    refine RG.vl rfl rfl rfl (Ev.pickF rfl rfl rfl) ?_
    refine RG.vl rfl rfl rfl (Ev.assign rfl rfl) ?_
    refine RG.done ?_
    refine QW.sub (S' := [(2, _)]) ⟨rfl, trivial⟩ ?_
    refine QW.then_ ?_
    refine CW.ret ?_
    refine QW.ret1 rfl rfl ?_
    have hB := hB0
    refine ⟨congrArg Value.bool ?_, hB⟩
    unfold isW
    first | (rw [decide_eq_true (show 4 < l.length by omega), decide_eq_true (show l.length ≤ 63 by omega)]; rfl) | (rw [decide_eq_false (show ¬ 4 < l.length by omega)]; rfl) | (rw [decide_eq_false (show ¬ l.length ≤ 63 by omega), Bool.and_false]; rfl)

set_option maxRecDepth 100000 in
set_option maxHeartbeats 1000000 in
theorem poly_ret (u : Value) (l : List Nat) (w : World) (hl : RdL w 1 encN u l) (hlen : l.length ≤ 100000) :
    Ret Tryz.prog 61 [u] w (fun v w' => Own w' w.heap.size 5 1 encN v l.reverse ∧ Ex w w') := by
  have hB0 : Ex w w := Ex.rfl_ _
  refine Ret.of Tryz.func61 rfl Tryz.ntmps61 rfl ?_
  refine CW.seq ?_
  refine CW.region ?_
  refine RG.vl rfl rfl rfl (Ev.assign rfl rfl) ?_
  refine RG.done ?_
  refine QW.then_ ?_
  refine CW.seq ?_
  refine CW.region ?_
  refine RG.vl rfl rfl rfl (Ev.move rfl rfl) ?_
  refine RG.call rfl rfl rfl rfl rfl rfl rfl en_59 (clone_ret _ _ _ (hl) (by omega)) ?_
  have hpre1 := hB0
  rintro vcl1 w1 ⟨hcl1, hx1⟩
  have hE2 := hx1
  refine RG.vl rfl rfl rfl (Ev.assign rfl rfl) ?_
  refine RG.done ?_
  refine QW.then_ ?_
  refine CW.seq ?_
  refine CW.region ?_
  refine RG.vl rfl rfl rfl (Ev.move rfl rfl) ?_
  refine RG.call rfl rfl rfl rfl rfl rfl rfl en_104 (reverse_ret w _ _ _ (Ex.tr hB0 hE2) hcl1 (by omega)) ?_
  rintro _ w3 ⟨rfl, hown4, hxo5⟩
  replace hE2 := hxo5
  refine RG.done ?_
  refine QW.then_ ?_
  refine CW.seq ?_
  refine CW.region ?_
  refine RG.vl rfl rfl rfl (Ev.move rfl rfl) ?_
  refine RG.vl rfl rfl rfl (Ev.assign rfl rfl) ?_
  refine RG.done ?_
  refine QW.then_ ?_
  refine CW.ret ?_
  refine QW.ret1 rfl rfl ?_
  have hB := (Ex.tr hB0 hE2)
  exact ⟨hown4, hB⟩

set_option maxRecDepth 100000 in
set_option maxHeartbeats 1000000 in
theorem syn_ret (u : Value) (l : List Nat) (w : World) (hl : RdL w 1 encN u l) (hel : El l) (hlen : l.length ≤ 63) :
    Ret Tryz.prog 67 [u] w (fun v w' => v = .agg (encs4 (syL l)).toArray ∧ Ex w w') := by
  have hB0 : Ex w w := Ex.rfl_ _
  refine Ret.of Tryz.func67 rfl Tryz.ntmps67 rfl ?_
  refine CW.seq ?_
  refine CW.region ?_
  refine RG.alloc_ rfl rfl rfl rfl inf_128 (fun gR w1 egR hx1 hb1 => ?_)
  have hle2 : w.heap.size ≤ gR := by have := (Ex.rfl_ w).size; omega
  have hE3 := hx1
  refine RG.done ?_
  refine QW.then_ ?_
  refine CW.seq ?_
  refine CW.region ?_
  refine RG.alloc_ rfl rfl rfl rfl inf_128 (fun gS w4 egS hx4 hb4 => ?_)
  have hle5 : w.heap.size ≤ gS := by have := hE3.size; omega
  have hle6 : w1.heap.size ≤ gS := by have := (Ex.rfl_ w1).size; omega
  have hlt7 : gR < gS := by have := Blk.lt hb1; omega
  replace hE3 := Ex.tr hE3 hx4
  have hE8 := hx4
  refine RG.done ?_
  refine QW.then_ ?_
  refine CW.seq ?_
  refine CW.region ?_
  refine RG.vl rfl rfl rfl (Ev.move rfl rfl) ?_
  refine RG.call rfl rfl rfl rfl rfl rfl rfl en_61 (poly_ret _ _ _ ((hl.ext hE3)) (by omega)) ?_
  have hpre9 := (Ex.tr hB0 hE3)
  rintro vp w9 ⟨hpo, hx9⟩
  have hsb10 := fun e => sep_blk (hb1.ext hE8) (Nat.le_refl _) hpo e
  have hsb11 := fun e => sep_blk hb4 (Nat.le_refl _) hpo e
  replace hpo := Own.low (B' := w.heap.size) hpo (by have := (Ex.tr hB0 hE3).size; omega)
  replace hE3 := Ex.tr hE3 hx9
  replace hE8 := Ex.tr hE8 hx9
  have hE12 := hx9
  refine RG.vl rfl rfl rfl (Ev.assign rfl rfl) ?_
  refine RG.done ?_
  refine QW.then_ ?_
  refine CW.seq ?_
  refine CW.seq ?_
  refine CW.region ?_
  refine RG.vl rfl rfl rfl (Ev.move rfl rfl) ?_
  refine RG.done ?_
  refine QW.then_ ?_
  refine CW.block ?_
  refine CW.loop1 [(2, _), (3, _), (4, _)] ⟨rfl, rfl, rfl, trivial⟩ (fun (i : Nat) => [(8, .int .i64 i)]) (fun i w' => (i ≤ 4 ∧ Blk w' gS 128 (syC l i) ∧ Own w' w.heap.size 5 1 encN vp l.reverse ∧ Blk w' gR 128 (List.replicate 4 (.int .u8 0))) ∧ Ex w w') (fun i => 4 - i) (0) ⟨rfl, trivial⟩ ⟨⟨by omega, by rw [← syC_zero]; exact (hb4.ext hE12), hpo, (hb1.ext hE8)⟩, (Ex.tr hB0 hE3)⟩ ?_
  rintro i wl13 ⟨⟨hi, hbS, hpo, hbR⟩, hxwl13⟩
  refine CW.sub (S' := [(8, _), (2, _), (3, _), (4, _)]) ⟨rfl, rfl, rfl, rfl, trivial⟩ ?_
  refine CW.seq ?_
  refine CW.region ?_
  refine RG.vl rfl rfl rfl (Ev.lss rfl rfl rfl) ?_
  refine RG.done ?_
  refine QW.then_ ?_
  refine CW.seq ?_
  refine CW.condP rfl (fun hc14 => ?_) (fun hc14 => ?_)
  · refine CW.skip ?_
    refine QW.then_ ?_
    refine CW.seq ?_
    refine CW.block ?_
    refine CW.seq ?_
    refine CW.region ?_
    refine RG.vl rfl rfl rfl (Ev.move rfl rfl) ?_
    refine RG.vl rfl rfl rfl (Ev.assign rfl rfl) ?_
    refine RG.done ?_
    refine QW.then_ ?_
    obtain ⟨hp1, hp2⟩ := two_shl i (by omega)
    have hrl : l.reverse.length = l.length := List.length_reverse
    refine CW.region ?_
    refine RG.vl rfl rfl rfl (Ev.move rfl rfl) ?_
    refine RG.vl rfl rfl rfl (Ev.move rfl rfl) ?_
    refine RG.vl rfl rfl rfl (Ev.move rfl rfl) ?_
    refine RG.vl rfl rfl rfl ((Ev.shl8 (p := 2) rfl rfl rfl (by omega) (by omega)).conv (congrArg (fun n : Nat => Value.int .u8 (n : Int)) hp1)) ?_
    refine RG.call rfl rfl rfl rfl rfl rfl rfl en_109 (Eval_el _ _ _ (pw (i + 1)) ((hpo.rdl encN_len)) (by omega) hel.rev (by omega)) ?_
    rintro _ w15 ⟨rfl, hx15⟩
    replace hxwl13 := Ex.tr hxwl13 hx15
    have hE16 := hx15
    refine RG.vl rfl rfl rfl (Ev.move rfl rfl) ?_
    refine RG.vl rfl rfl rfl (Ev.extract rfl rfl rfl) ?_
    refine RG.vl rfl rfl rfl (Ev.extract rfl rfl rfl) ?_
    refine RG.vl rfl rfl rfl (Ev.idxA rfl rfl rfl Tryz.underlying128 sz_5 (by omega)) ?_
    refine RG.st (g := gS) (k := _) rfl rfl rfl rfl rfl sz_5 rfl (hbS.ext hE16) (by rw [syC_len]; simp; omega) (fun ws17 hwws17 hbws17 => ?_)
    replace hbR := Blk.far (hbR.ext hE16) hwws17 (by omega)
    replace hpo := Own.far (Own.ext hpo hE16) hwws17 hsb11
    replace hxwl13 := Wr.below hxwl13 hwws17 hle5
    refine RG.done ?_
    refine QW.blockN ?_
    refine QW.then_ ?_
    refine CW.region ?_
    refine RG.vl rfl rfl rfl (Ev.addI rfl rfl rfl (by omega)) ?_
    refine RG.vl rfl rfl rfl (Ev.move rfl rfl) ?_
    refine RG.done ?_
    refine QW.sub (S' := [(2, _), (3, _), (4, _), (8, _)]) ⟨rfl, rfl, rfl, rfl, trivial⟩ ?_
    refine QW.round1 (i + 1) ⟨rfl, trivial⟩ ⟨rfl, rfl, rfl, trivial⟩ ⟨⟨by omega, by rw [← syC_set l i (by omega)]; exact hbws17, hpo, hbR⟩, (Ex.tr hB0 hxwl13)⟩ (by omega)
  · refine CW.exit ?_
    refine QW.thenExit ?_
    refine QW.thenExit ?_
    refine QW.blockHit ?_
    refine QW.then_ ?_
    refine CW.seq ?_
    obtain rfl : i = 4 := by omega
    rw [syC_four] at hbS
    refine CW.region ?_
    refine RG.vl rfl rfl rfl (Ev.ldAgg rfl rfl Tryz.underlying128 rfl sz_128 rfl (hbS.cells)) ?_
    refine RG.stAll (g := gR) rfl rfl rfl rfl rfl sz_128 rfl rfl rfl hbR (fun ws18 hwws18 hbws18 => ?_)
    replace hbS := Blk.far hbS hwws18 (by omega)
    replace hpo := Own.far hpo hwws18 hsb10
    replace hxwl13 := Wr.below hxwl13 hwws18 hle2
    refine RG.done ?_
    refine QW.then_ ?_
    refine CW.ret ?_
    refine QW.retC rfl rfl Tryz.underlying128 rfl sz_128 rfl hbws18 ?_
    have hB := (Ex.tr hB0 hxwl13)
    exact ⟨rfl, hB⟩

end Go.Proofs.YtgjnchjkjdnidaaGreat

/- Walks (SB). Written by program. -/
namespace Go.Proofs.YtgjnchjkjdnidaaGreat
open Go.RowKit
set_option maxRecDepth 100000 in
set_option maxHeartbeats 2000000 in
theorem encode_ret (u : Value) (l : List Nat) (w : World) (hl : RdL w 1 encN u l) (hlen : l.length ≤ 100000) :
    Ret Tryz.prog 26 [u] w (fun v w' => ∃ r c, v = .tuple #[r, .int .i64 (if encOk l then 0 else 2)] ∧ Own w' w.heap.size 5 1 encN r c ∧ (encOk l = true → IsEnc l c) ∧ (encOk l = false → r = .slice none 0 0 ∧ c = []) ∧ Ex w w') := by
  have hB0 : Ex w w := Ex.rfl_ _
  refine Ret.of Tryz.func26 rfl Tryz.ntmps26 rfl ?_
  refine CW.seq ?_
  refine CW.region ?_
  refine RG.vl rfl rfl rfl (Ev.assign rfl rfl) ?_
  refine RG.vl rfl rfl rfl (Ev.assign rfl rfl) ?_
  refine RG.done ?_
  refine QW.then_ ?_
  refine CW.seq ?_
  refine CW.seq ?_
  refine CW.region ?_
  refine RG.vl rfl rfl rfl (Ev.move rfl rfl) ?_
  refine RG.vl rfl rfl rfl (Ev.lenL rfl rfl rfl Tryz.underlying58 (hl)) ?_
  refine RG.vl rfl rfl rfl (Ev.lss rfl rfl rfl) ?_
  refine RG.vl rfl rfl rfl (Ev.move rfl rfl) ?_
  refine RG.split (d := 13) rfl (fun hg1 => ?_) (fun hg1 => ?_)
  · refine RG.pass rfl rfl rfl ?_
    refine RG.pass rfl rfl rfl ?_
    refine RG.pass rfl rfl rfl ?_
    refine RG.vl rfl rfl rfl (Ev.pickT rfl rfl rfl) ?_
    refine RG.vl rfl rfl rfl (Ev.move rfl rfl) ?_
    refine RG.pass rfl rfl rfl ?_
    refine RG.pass rfl rfl rfl ?_
    refine RG.pass rfl rfl rfl ?_
    refine RG.vl rfl rfl rfl (Ev.pickT rfl rfl rfl) ?_
    refine RG.done ?_
    refine QW.sub (S' := [(0, _), (2, _), (3, _), (22, _)]) ⟨rfl, rfl, rfl, rfl, trivial⟩ ?_
    refine QW.then_ ?_
    refine CW.condT rfl ?_
    refine CW.seq ?_
    refine CW.region ?_
    refine RG.vl rfl rfl rfl (Ev.assign rfl rfl) ?_
    refine RG.vl rfl rfl rfl (Ev.assign rfl rfl) ?_
    refine RG.done ?_
    refine QW.then_ ?_
    refine CW.ret ?_
    refine QW.thenRet ?_
    refine QW.ret2 rfl rfl rfl ?_
    have hB := hB0
    have hno : encOk l = false := by
      cases h : encOk l with
      | false => rfl
      | true =>
        obtain ⟨h1, h2, h3⟩ := encOk_iff.1 h
        exfalso
        first | omega | (rw [areE_el.2 h3] at *; simp at *)
    exact ⟨_, [], by rw [hno]; rfl, Own.nil_ _ _ _ _ _, fun h => (by rw [hno] at h; cases h), fun _ => ⟨rfl, rfl⟩, hB⟩
  · refine RG.vl rfl rfl rfl (Ev.move rfl rfl) ?_
    refine RG.vl rfl rfl rfl (Ev.lenL rfl rfl rfl Tryz.underlying58 (hl)) ?_
    refine RG.vl rfl rfl rfl (Ev.gtr rfl rfl rfl) ?_
    refine RG.vl rfl rfl rfl (Ev.pickF rfl rfl rfl) ?_
    refine RG.vl rfl rfl rfl (Ev.move rfl rfl) ?_
    refine RG.split (d := 18) rfl (fun hg2 => ?_) (fun hg2 => ?_)
    · refine RG.pass rfl rfl rfl ?_
      refine RG.pass rfl rfl rfl ?_
      refine RG.pass rfl rfl rfl ?_
      refine RG.vl rfl rfl rfl (Ev.pickT rfl rfl rfl) ?_
      refine RG.done ?_
      refine QW.sub (S' := [(0, _), (2, _), (3, _), (22, _)]) ⟨rfl, rfl, rfl, rfl, trivial⟩ ?_
      refine QW.then_ ?_
      refine CW.condT rfl ?_
      refine CW.seq ?_
      refine CW.region ?_
      refine RG.vl rfl rfl rfl (Ev.assign rfl rfl) ?_
      refine RG.vl rfl rfl rfl (Ev.assign rfl rfl) ?_
      refine RG.done ?_
      refine QW.then_ ?_
      refine CW.ret ?_
      refine QW.thenRet ?_
      refine QW.ret2 rfl rfl rfl ?_
      have hB := hB0
      have hno : encOk l = false := by
        cases h : encOk l with
        | false => rfl
        | true =>
          obtain ⟨h1, h2, h3⟩ := encOk_iff.1 h
          exfalso
          first | omega | (rw [areE_el.2 h3] at *; simp at *)
      exact ⟨_, [], by rw [hno]; rfl, Own.nil_ _ _ _ _ _, fun h => (by rw [hno] at h; cases h), fun _ => ⟨rfl, rfl⟩, hB⟩
    · refine RG.vl rfl rfl rfl (Ev.move rfl rfl) ?_
      refine RG.call rfl rfl rfl rfl rfl rfl rfl en_58 (areE_ret _ _ _ (hl) (by omega)) ?_
      rintro _ w3 ⟨rfl, hx3⟩
      have hE4 := hx3
      refine RG.vl rfl rfl rfl (Ev.not rfl rfl) ?_
      refine RG.vl rfl rfl rfl (Ev.pickF rfl rfl rfl) ?_
      refine RG.done ?_
      refine QW.sub (S' := [(0, _), (2, _), (3, _), (22, _)]) ⟨rfl, rfl, rfl, rfl, trivial⟩ ?_
      refine QW.then_ ?_
      refine CW.cond rfl (fun hc5 => ?_) (fun hc5 => ?_)
      · refine CW.seq ?_
        refine CW.region ?_
        refine RG.vl rfl rfl rfl (Ev.assign rfl rfl) ?_
        refine RG.vl rfl rfl rfl (Ev.assign rfl rfl) ?_
        refine RG.done ?_
        refine QW.then_ ?_
        refine CW.ret ?_
        refine QW.thenRet ?_
        refine QW.ret2 rfl rfl rfl ?_
        have hB := (Ex.tr hB0 hE4)
        have hno : encOk l = false := by
          cases h : encOk l with
          | false => rfl
          | true =>
            obtain ⟨h1, h2, h3⟩ := encOk_iff.1 h
            exfalso
            first | omega | (rw [areE_el.2 h3] at *; simp at *)
        exact ⟨_, [], by rw [hno]; rfl, Own.nil_ _ _ _ _ _, fun h => (by rw [hno] at h; cases h), fun _ => ⟨rfl, rfl⟩, hB⟩
      · refine CW.skip ?_
        refine QW.then_ ?_
        refine CW.seq ?_
        have hok : encOk l = true := encOk_iff.2 ⟨by omega, by omega, areE_el.1 (by simpa using (by assumption : (!areE l) = false))⟩
        obtain ⟨hl1, hl2, hel⟩ := encOk_iff.1 hok
        refine CW.region ?_
        refine RG.vl rfl rfl rfl (Ev.move rfl rfl) ?_
        replace hl := (hl.ext hE4)
        have hR6 := (Ex.tr hB0 hE4)
        refine RG.call rfl rfl rfl rfl rfl rfl rfl en_59 (clone_ret _ _ _ (hl) (by omega)) ?_
        have hpre7 := hR6
        rintro vcl7 w7 ⟨hcl7, hx7⟩
        have hE8 := hx7
        refine RG.appZ (k := 4) (0 : Nat) rfl rfl rfl rfl rfl rfl rfl Tryz.underlying58 Tryz.underlying3 inf_5 rfl rfl rfl hcl7 (by omega) (by omega) (by simp only [maxLen]; omega) (by omega) (hE8.size) (fun vw wa9 hown10 hgr11 hat12 => ?_)
        replace hE8 := own_block hcl7 hE8 hgr11 (Nat.le_refl _) hE8.size
        refine RG.vl rfl rfl rfl (Ev.assign rfl rfl) ?_
        refine RG.done ?_
        refine QW.then_ ?_
        refine CW.seq ?_
        have hlz : (l ++ List.replicate 4 0).length = l.length + 4 := by rw [List.length_append, List.length_replicate]
        refine CW.region ?_
        refine RG.vl rfl rfl rfl (Ev.move rfl rfl) ?_
        refine RG.call rfl rfl rfl rfl rfl rfl rfl en_61 (poly_ret _ _ _ ((hown10.rdl encN_len)) (by omega)) ?_
        have hpre13 := (Ex.tr hR6 hE8)
        rintro vpo13 w13 ⟨hpo13, hx13⟩
        have hsep14 : Sep vpo13 _ := Sep.of_new hown10 (fun k h => Own.ge hpo13 h)
        replace hE8 := Ex.tr hE8 hx13
        have hE15 := hx13
        refine RG.litO (os := [_, _, _, _, _]) (enc := encN) (gen5) rfl rfl rfl rfl rfl rfl rfl Tryz.underlying58 inf_5 rfl rfl rfl rfl rfl encN_len rfl rfl (fun v16 wk17 hxwk17 hown18 hnew19 => ?_)
        have hsep20 : Sep v16 _ := Sep.of_new (Own.ext hown10 hE15) hnew19
        have hsep21 : Sep v16 _ := Sep.of_new hpo13 hnew19
        replace hE8 := Ex.tr hE8 hxwk17
        replace hE15 := Ex.tr hE15 hxwk17
        have hE22 := hxwk17
        refine RG.call rfl rfl rfl rfl rfl rfl rfl en_60 (Divide_el _ _ _ gen5 _ (((Own.ext hpo13 hE22).rdl encN_len)) ((hown18.rdl encN_len)) (by rw [List.length_reverse]; omega) (hel.app (El.zeros 4)).rev (by decide) gen5_el (by rw [gen5_dg]; omega)) ?_
        have hpre23 := (Ex.tr hR6 hE8)
        rintro _ w23 ⟨r1, r2, dq, rr, rfl, hod, hoe, hsp, hdv, hx23⟩
        have hsep24 : Sep r1 _ := Sep.of_new (Own.ext hown10 hE15) (fun k h => Own.ge hod h)
        have hsep25 : Sep r1 _ := Sep.of_new (Own.ext hpo13 hE22) (fun k h => Own.ge hod h)
        have hsep26 : Sep r1 _ := Sep.of_new hown18 (fun k h => Own.ge hod h)
        replace hod := Own.low (B' := w3.heap.size) hod (by have := hE8.size; omega)
        have hsep27 : Sep r2 _ := Sep.of_new (Own.ext hown10 hE15) (fun k h => Own.ge hoe h)
        have hsep28 : Sep r2 _ := Sep.of_new (Own.ext hpo13 hE22) (fun k h => Own.ge hoe h)
        have hsep29 : Sep r2 _ := Sep.of_new hown18 (fun k h => Own.ge hoe h)
        replace hoe := Own.low (B' := w3.heap.size) hoe (by have := hE8.size; omega)
        replace hE8 := Ex.tr hE8 hx23
        replace hE15 := Ex.tr hE15 hx23
        replace hE22 := Ex.tr hE22 hx23
        have hE30 := hx23
        refine RG.vl rfl rfl rfl (Ev.move rfl rfl) ?_
        refine RG.vl rfl rfl rfl (Ev.extract rfl rfl rfl) ?_
        refine RG.vl rfl rfl rfl (Ev.extract rfl rfl rfl) ?_
        refine RG.vl rfl rfl rfl (Ev.extract rfl rfl rfl) ?_
        refine RG.vl rfl rfl rfl (Ev.assign rfl rfl) ?_
        refine RG.vl rfl rfl rfl (Ev.assign rfl rfl) ?_
        refine RG.vl rfl rfl rfl (Ev.assign rfl rfl) ?_
        refine RG.done ?_
        refine QW.sub (S' := [(2, _), (3, _), (4, _), (6, _), (7, _)]) ⟨rfl, rfl, rfl, rfl, rfl, trivial⟩ ?_
        refine QW.then_ ?_
        refine CW.seq ?_
        refine CW.seq ?_
        refine CW.region ?_
        refine RG.vl rfl rfl rfl (Ev.move rfl rfl) ?_
        refine RG.vl rfl rfl rfl (Ev.isF (Ev.neI rfl rfl rfl) (fun h => h rfl)) ?_
        refine RG.done ?_
        refine QW.then_ ?_
        refine CW.condF rfl ?_
        refine CW.skip ?_
        refine QW.then_ ?_
        refine CW.seq ?_
        refine CW.seq ?_
        obtain ⟨hr4, henc⟩ := enc_end hel hdv.2.2.2.1 hdv.2.2.2.2 hdv.1 hdv.2.2.1
        refine CW.region ?_
        refine RG.vl rfl rfl rfl (Ev.move rfl rfl) ?_
        refine RG.vl rfl rfl rfl (Ev.lenL rfl rfl rfl Tryz.underlying58 ((hoe.rdl encN_len))) ?_
        refine RG.vl rfl rfl rfl (Ev.move rfl rfl) ?_
        refine RG.done ?_
        refine QW.then_ ?_
        refine CW.block ?_
        refine CW.loop1 [(2, _), (3, _), (4, _), (36, _), (37, _)] ⟨rfl, rfl, rfl, rfl, rfl, trivial⟩ (fun (i : Nat) => [(38, .int .i64 (i : Int))]) (fun i w' => (i ≤ rr.length ∧ Own w' w3.heap.size 5 1 encN vw (stE l rr i) ∧ Own w' w3.heap.size 5 1 encN r2 rr) ∧ Ex w3 w') (fun i => rr.length - i) (0) ⟨rfl, trivial⟩ ⟨⟨Nat.zero_le _, by rw [← stE_zero]; exact (Own.ext hown10 hE15), hoe⟩, hE8⟩ ?_
        rintro i wl31 ⟨⟨hi, how, hoe⟩, hxwl31⟩
        refine CW.sub (S' := [(38, _), (2, _), (3, _), (4, _), (36, _), (37, _)]) ⟨rfl, rfl, rfl, rfl, rfl, rfl, trivial⟩ ?_
        refine CW.seq ?_
        refine CW.region ?_
        refine RG.vl rfl rfl rfl (Ev.lss rfl rfl rfl) ?_
        refine RG.done ?_
        refine QW.then_ ?_
        refine CW.seq ?_
        refine CW.condP rfl (fun hc32 => ?_) (fun hc32 => ?_)
        · refine CW.skip ?_
          refine QW.then_ ?_
          refine CW.seq ?_
          refine CW.block ?_
          refine CW.seq ?_
          obtain ⟨a, ha⟩ : ∃ a, rr[i]? = some a := ⟨_, List.getElem?_eq_getElem (by omega)⟩
          have hsl := stE_len l rr i
          refine CW.region ?_
          refine RG.vl rfl rfl rfl (Ev.move rfl rfl) ?_
          refine RG.idxO rfl rfl rfl rfl rfl rfl Tryz.underlying58 sz_5 encN_len (hoe) (ha) (fun g34 hg34 hBg34 hp33b hp33 => ?_)
          refine RG.vl rfl rfl rfl (Ev.ld0 rfl rfl Tryz.underlying5 rfl (hp33) (rfl)) ?_
          refine RG.vl rfl rfl rfl (Ev.assign rfl rfl) ?_
          refine RG.vl rfl rfl rfl (Ev.assign rfl rfl) ?_
          refine RG.done ?_
          refine QW.then_ ?_
          obtain ⟨q, hq⟩ : ∃ q, (stE l rr i)[l.length + 4 - 1 - i]? = some q := ⟨_, List.getElem?_eq_getElem (by omega)⟩
          refine CW.region ?_
          refine RG.vl rfl rfl rfl (Ev.move rfl rfl) ?_
          refine RG.vl rfl rfl rfl (Ev.move rfl rfl) ?_
          refine RG.vl rfl rfl rfl (Ev.lenL rfl rfl rfl Tryz.underlying58 ((how.rdl encN_len))) ?_
          refine RG.vl rfl rfl rfl (Ev.subI rfl rfl rfl (by omega)) ?_
          refine RG.vl rfl rfl rfl (Ev.move rfl rfl) ?_
          refine RG.vl rfl rfl rfl ((Ev.subI rfl rfl rfl (by omega)).conv (congrArg (Value.int .i64) (show _ = ((l.length + 4 - 1 - i : Nat) : Int) by omega))) ?_
          refine RG.vl rfl rfl rfl (Ev.move rfl rfl) ?_
          refine RG.idxO rfl rfl rfl rfl rfl rfl Tryz.underlying58 sz_5 encN_len (how) (hq) (fun g36 hg36 hBg36 hp35b hp35 => ?_)
          refine RG.stOw0 (g := g36) (a) rfl rfl rfl rfl rfl sz_5 rfl (fun _ => rfl) how hg36 (hq) rfl (rfl) (fun ws37 hwws37 hown38 => ?_)
          replace hoe := Own.far hoe hwws37 (fun e => (Sep.symm hsep27) _ hg36 e)
          replace hxwl31 := Wr.below hxwl31 hwws37 hBg36
          refine RG.done ?_
          refine QW.sub (S' := [(2, _), (3, _), (4, _), (36, _), (37, _), (38, _)]) ⟨rfl, rfl, rfl, rfl, rfl, rfl, trivial⟩ ?_
          refine QW.blockN ?_
          refine QW.then_ ?_
          refine CW.region ?_
          refine RG.vl rfl rfl rfl (Ev.addI rfl rfl rfl (by omega)) ?_
          refine RG.vl rfl rfl rfl (Ev.move rfl rfl) ?_
          refine RG.done ?_
          refine QW.round1 (i + 1) ⟨rfl, trivial⟩ ⟨rfl, rfl, rfl, rfl, rfl, trivial⟩ ⟨⟨by omega, by rw [← stE_set (by omega) ha]; exact hown38, hoe⟩, hxwl31⟩ (by omega)
        · refine CW.exit ?_
          refine QW.thenExit ?_
          refine QW.thenExit ?_
          refine QW.blockHit ?_
          refine QW.then_ ?_
          refine CW.seq ?_
          refine CW.region ?_
          refine RG.vl rfl rfl rfl (Ev.move rfl rfl) ?_
          refine RG.vl rfl rfl rfl (Ev.assign rfl rfl) ?_
          refine RG.vl rfl rfl rfl (Ev.assign rfl rfl) ?_
          refine RG.done ?_
          refine QW.then_ ?_
          refine CW.ret ?_
          refine QW.ret2 rfl rfl rfl ?_
          have hB := (Ex.tr hR6 hxwl31)
          obtain rfl : i = rr.length := by omega
          exact ⟨_, _, by rw [hok]; rfl, how.low (by have := hR6.size; omega), fun _ => henc, fun h => (by rw [hok] at h; cases h), hB⟩

end Go.Proofs.YtgjnchjkjdnidaaGreat

/- Walks (SC). Written by program. -/
namespace Go.Proofs.YtgjnchjkjdnidaaGreat
open Go.RowKit
set_option maxRecDepth 100000 in
set_option maxHeartbeats 1000000 in
theorem subtract_ret (w0 : World) (g r i t : Nat) (M : Mx) (w : World) (hx0 : Ex w0 w) (hg0 : w0.heap.size ≤ g) (hb : Blk w g 135 (mc M)) (hel : EM M) (hr : r < 4) (hi : i < 4) (ht : t < 64) :
    Ret Tryz.prog 114 [.pointer (some ⟨g, 0, none⟩), .int .i64 (r : Int), .int .i64 (i : Int), .int .u8 (t : Int)] w (fun v w' => v = .tuple #[] ∧ Blk w' g 135 (mc (subTo M r i t 5)) ∧ Ex w0 w') := by
  have hB0 : Ex w w := Ex.rfl_ _
  refine Ret.of Tryz.func114 rfl Tryz.ntmps114 rfl ?_
  refine CW.seq ?_
  refine CW.region ?_
  refine RG.vl rfl rfl rfl (Ev.move rfl rfl) ?_
  refine RG.done ?_
  refine QW.then_ ?_
  refine CW.block ?_
  refine CW.loop1 [(0, _), (1, _), (2, _), (3, _)] ⟨rfl, rfl, rfl, rfl, trivial⟩ (fun (k : Nat) => [(11, .int .i64 (k : Int))]) (fun k w' => (k ≤ 5 ∧ Blk w' g 135 (mc (subTo M r i t k))) ∧ Ex w0 w') (fun k => 5 - k) (0) ⟨rfl, trivial⟩ ⟨⟨by omega, by rw [subTo_zero]; exact hb⟩, hx0⟩ ?_
  rintro k wl1 ⟨⟨hk, hbk⟩, hxwl1⟩
  refine CW.sub (S' := [(11, _), (0, _), (1, _), (2, _), (3, _)]) ⟨rfl, rfl, rfl, rfl, rfl, trivial⟩ ?_
  refine CW.seq ?_
  refine CW.region ?_
  refine RG.vl rfl rfl rfl (Ev.lss rfl rfl rfl) ?_
  refine RG.done ?_
  refine QW.then_ ?_
  refine CW.seq ?_
  refine CW.condP rfl (fun hc2 => ?_) (fun hc2 => ?_)
  · refine CW.skip ?_
    refine QW.then_ ?_
    refine CW.seq ?_
    refine CW.block ?_
    refine CW.seq ?_
    refine CW.region ?_
    refine RG.vl rfl rfl rfl (Ev.move rfl rfl) ?_
    refine RG.vl rfl rfl rfl (Ev.assign rfl rfl) ?_
    refine RG.done ?_
    refine QW.then_ ?_
    refine CW.seq ?_
    have e1 : subTo M r i t k i k = M i k := by unfold subTo; rw [if_neg (by omega)]
    have e2 : subTo M r i t k r k = M r k := by unfold subTo; rw [if_neg (by omega)]
    have h1 := hel i k hi (by omega)
    have h2 := hel r k hr (by omega)
    have h3 := gm_lt t (M i k)
    have h4 := xor_lt64 _ _ h2 h3
    refine CW.region ?_
    refine RG.vl rfl rfl rfl (Ev.move rfl rfl) ?_
    refine RG.vl rfl rfl rfl (Ev.move rfl rfl) ?_
    refine RG.vl rfl rfl rfl (Ev.move rfl rfl) ?_
    refine RG.vl rfl rfl rfl (Ev.move rfl rfl) ?_
    refine RG.vl rfl rfl rfl (Ev.nilC rfl rfl) ?_
    refine RG.vl rfl rfl rfl (Ev.idxA rfl rfl rfl Tryz.underlying135 sz_133 (by omega)) ?_
    refine RG.vl rfl rfl rfl (Ev.idxA rfl rfl rfl Tryz.underlying133 sz_5 (by omega)) ?_
    refine RG.vl rfl rfl rfl (Ev.ldAA rfl rfl Tryz.underlying5 rfl (hbk.cells) ((show (mc _)[i * 5 + k * 1]? = some (.int .u8 (M i k : Int)) by rw [mc_at _ (by omega) (by omega), e1]))) ?_
    refine RG.call rfl rfl rfl rfl rfl rfl rfl en_128 (Mul_el _ _ _ ht h1) ?_
    rintro _ w3 ⟨rfl, hx3⟩
    replace hxwl1 := Ex.tr hxwl1 hx3
    have hE4 := hx3
    refine RG.vl rfl rfl rfl (Ev.move rfl rfl) ?_
    refine RG.vl rfl rfl rfl (Ev.extract rfl rfl rfl) ?_
    refine RG.vl rfl rfl rfl (Ev.extract rfl rfl rfl) ?_
    refine RG.vl rfl rfl rfl (Ev.assign rfl rfl) ?_
    refine RG.vl rfl rfl rfl (Ev.assign rfl rfl) ?_
    refine RG.done ?_
    refine QW.sub (S' := [(0, _), (1, _), (2, _), (3, _), (8, _), (9, _), (11, _)]) ⟨rfl, rfl, rfl, rfl, rfl, rfl, rfl, trivial⟩ ?_
    refine QW.then_ ?_
    refine CW.draw [12] (.ex) 13 rfl mixed (fun wd5 hxwd5 => ?_)
    replace hxwl1 := Ex.tr hxwl1 hxwd5
    replace hE4 := Ex.tr hE4 hxwd5
    refine AG.takeW 0 rfl (by kernel_rfl) (by kernel_rfl) rfl rfl rfl (fun _ => Ev.move rfl rfl) ?_
    refine AG.takeW 1 rfl (by kernel_rfl) (by kernel_rfl) rfl rfl rfl (fun _ => Ev.move rfl rfl) ?_
    refine AG.takeW 2 rfl (by kernel_rfl) (by kernel_rfl) rfl rfl rfl (fun _ => Ev.move rfl rfl) ?_
    refine AG.takeW 3 rfl (by kernel_rfl) (by kernel_rfl) rfl rfl rfl (fun _ => Ev.nilC rfl rfl) ?_
    refine AG.takeW 4 rfl (by kernel_rfl) (by kernel_rfl) rfl rfl rfl (fun _ => Ev.idxA rfl rfl rfl Tryz.underlying135 sz_133 (by omega)) ?_
    refine AG.takeW 5 rfl (by kernel_rfl) (by kernel_rfl) rfl rfl rfl (fun _ => Ev.idxA rfl rfl rfl Tryz.underlying133 sz_5 (by omega)) ?_
    refine AG.take 6 rfl (by kernel_rfl) (by kernel_rfl) rfl rfl rfl (fun wq hq => Ev.ldAA rfl rfl Tryz.underlying5 rfl (((hbk.ext hE4).ext hq).cells) ((show (mc _)[r * 5 + k * 1]? = some (.int .u8 (M r k : Int)) by rw [mc_at _ (by omega) (by omega), e2]))) ?_
    refine AG.takeW 7 rfl (by kernel_rfl) (by kernel_rfl) rfl rfl rfl (fun _ => Ev.move rfl rfl) ?_
    refine AG.takeW 8 rfl (by kernel_rfl) (by kernel_rfl) rfl rfl rfl (fun _ => Ev.xor8 rfl rfl rfl (by omega) (by omega)) ?_
    refine AG.takeW 9 rfl (by kernel_rfl) (by kernel_rfl) rfl rfl rfl (fun _ => Ev.nilC rfl rfl) ?_
    refine AG.takeW 10 rfl (by kernel_rfl) (by kernel_rfl) rfl rfl rfl (fun _ => Ev.idxA rfl rfl rfl Tryz.underlying135 sz_133 (by omega)) ?_
    refine AG.takeW 11 rfl (by kernel_rfl) (by kernel_rfl) rfl rfl rfl (fun _ => Ev.idxA rfl rfl rfl Tryz.underlying133 sz_5 (by omega)) ?_
    refine AG.only 12 rfl (by kernel_rfl) ?_
    refine RG.st2 (g := g) rfl rfl rfl rfl rfl sz_5 rfl (hbk.ext hE4) (by rw [mc_len, Nat.blt_eq]; omega) (fun ws7 hwws7 hbws7 => ?_)
    replace hxwl1 := Wr.below hxwl1 hwws7 hg0
    rw [mc_set _ _ (by omega), subTo_more] at hbws7
    refine RG.done ?_
    refine QW.an (fun h => by simp at h) ?_
    refine AG.done (by kernel_rfl) ?_
    refine QW.blockN ?_
    refine QW.then_ ?_
    refine CW.region ?_
    refine RG.vl rfl rfl rfl (Ev.addI rfl rfl rfl (by omega)) ?_
    refine RG.vl rfl rfl rfl (Ev.move rfl rfl) ?_
    refine RG.done ?_
    refine QW.sub (S' := [(0, _), (1, _), (2, _), (3, _), (11, _)]) ⟨rfl, rfl, rfl, rfl, rfl, trivial⟩ ?_
    refine QW.round1 (k + 1) ⟨rfl, trivial⟩ ⟨rfl, rfl, rfl, rfl, trivial⟩ ⟨⟨by omega, hbws7⟩, hxwl1⟩ (by omega)
  · refine CW.exit ?_
    refine QW.thenExit ?_
    refine QW.thenExit ?_
    refine QW.blockHit ?_
    refine QW.end0 rfl ?_
    obtain rfl : k = 5 := by omega
    exact ⟨rfl, hbk, hxwl1⟩

set_option maxRecDepth 100000 in
set_option maxHeartbeats 2000000 in
theorem pivot_ret (w0 : World) (g i : Nat) (M : Mx) (w : World) (hx0 : Ex w0 w) (hg0 : w0.heap.size ≤ g) (hb : Blk w g 135 (mc M)) (hel : EM M) (hi : i < 4) :
    Ret Tryz.prog 113 [.pointer (some ⟨g, 0, none⟩), .int .i64 (i : Int)] w (fun v w' => ∃ b M', v = .bool b ∧ Blk w' g 135 (mc M') ∧ (b = true → ∃ row, i ≤ row ∧ row < 4 ∧ M row i ≠ 0 ∧ M' = pivM M i row) ∧ (b = false → M' = M ∧ ∀ r, i ≤ r → r < 4 → M r i = 0) ∧ Ex w0 w') := by
  have hB0 : Ex w w := Ex.rfl_ _
  refine Ret.of Tryz.func113 rfl Tryz.ntmps113 rfl ?_
  refine CW.seq ?_
  refine CW.region ?_
  refine RG.vl rfl rfl rfl (Ev.assign rfl rfl) ?_
  refine RG.done ?_
  refine QW.then_ ?_
  refine CW.seq ?_
  refine CW.seq ?_
  refine CW.region ?_
  refine RG.vl rfl rfl rfl (Ev.move rfl rfl) ?_
  refine RG.vl rfl rfl rfl (Ev.assign rfl rfl) ?_
  refine RG.done ?_
  refine QW.then_ ?_
  refine CW.block ?_
  refine CW.loop1 [(0, _), (1, _)] ⟨rfl, rfl, trivial⟩ (fun (row : Nat) => [(5, .int .i64 (row : Int))]) (fun row w' => (i ≤ row ∧ row ≤ 4 ∧ (∀ r, i ≤ r → r < row → M r i = 0) ∧ Blk w' g 135 (mc M)) ∧ Ex w0 w') (fun row => 4 - row) (i) ⟨rfl, trivial⟩ ⟨⟨Nat.le_refl _, by omega, fun r h1 h2 => absurd h1 (by omega), hb⟩, hx0⟩ ?_
  rintro row wl1 ⟨⟨hrow, hrow4, hz, hbk⟩, hxwl1⟩
  refine CW.sub (S' := [(5, _), (0, _), (1, _)]) ⟨rfl, rfl, rfl, trivial⟩ ?_
  refine CW.seq ?_
  refine CW.seq ?_
  refine CW.region ?_
  refine RG.vl rfl rfl rfl (Ev.move rfl rfl) ?_
  refine RG.vl rfl rfl rfl (Ev.lss rfl rfl rfl) ?_
  refine RG.done ?_
  refine QW.then_ ?_
  refine CW.condP rfl (fun hc2 => ?_) (fun hc2 => ?_)
  · refine CW.skip ?_
    refine QW.then_ ?_
    refine CW.seq ?_
    refine CW.block ?_
    refine CW.seq ?_
    refine CW.seq ?_
    refine CW.region ?_
    refine RG.vl rfl rfl rfl (Ev.move rfl rfl) ?_
    refine RG.vl rfl rfl rfl (Ev.move rfl rfl) ?_
    refine RG.vl rfl rfl rfl (Ev.move rfl rfl) ?_
    refine RG.vl rfl rfl rfl (Ev.nilC rfl rfl) ?_
    refine RG.vl rfl rfl rfl (Ev.idxA rfl rfl rfl Tryz.underlying135 sz_133 (by omega)) ?_
    refine RG.vl rfl rfl rfl (Ev.idxA rfl rfl rfl Tryz.underlying133 sz_5 (by omega)) ?_
    refine RG.vl rfl rfl rfl (Ev.ldAA rfl rfl Tryz.underlying5 rfl (hbk.cells) ((show (mc _)[row * 5 + i * 1]? = some (.int .u8 (M row i : Int)) by rw [mc_at _ (by omega) (by omega)]))) ?_
    refine RG.vl rfl rfl rfl (Ev.eqI rfl rfl rfl) ?_
    refine RG.done ?_
    refine QW.then_ ?_
    refine CW.condP rfl (fun hc3 => ?_) (fun hc3 => ?_)
    · refine CW.exit ?_
      refine QW.thenExit ?_
      refine QW.blockHit ?_
      refine QW.then_ ?_
      refine CW.region ?_
      refine RG.vl rfl rfl rfl (Ev.move rfl rfl) ?_
      refine RG.vl rfl rfl rfl (Ev.addI rfl rfl rfl (by omega)) ?_
      refine RG.vl rfl rfl rfl (Ev.assign rfl rfl) ?_
      refine RG.done ?_
      refine QW.round1 (row + 1) ⟨rfl, trivial⟩ ⟨rfl, rfl, trivial⟩ ⟨⟨by omega, by omega, fun r h1 h2 => by rcases Nat.lt_or_ge r row with h | h; exact hz r h1 h; obtain rfl : r = row := (by omega); omega, hbk⟩, hxwl1⟩ (by omega)
    · refine CW.skip ?_
      refine QW.then_ ?_
      refine CW.seq ?_
      have h0 : M row i ≠ 0 := by omega
      have hr4 : row < 4 := by omega
      refine CW.draw [16, 19] (.ex) 20 rfl mixed (fun wd4 hxwd4 => ?_)
      replace hxwl1 := Ex.tr hxwl1 hxwd4
      have hE5 := hxwd4
      refine AG.takeW 0 rfl (by kernel_rfl) (by kernel_rfl) rfl rfl rfl (fun _ => Ev.move rfl rfl) ?_
      refine AG.takeW 1 rfl (by kernel_rfl) (by kernel_rfl) rfl rfl rfl (fun _ => Ev.move rfl rfl) ?_
      refine AG.takeW 2 rfl (by kernel_rfl) (by kernel_rfl) rfl rfl rfl (fun _ => Ev.move rfl rfl) ?_
      refine AG.takeW 3 rfl (by kernel_rfl) (by kernel_rfl) rfl rfl rfl (fun _ => Ev.move rfl rfl) ?_
      refine AG.takeW 4 rfl (by kernel_rfl) (by kernel_rfl) rfl rfl rfl (fun _ => Ev.move rfl rfl) ?_
      refine AG.takeW 5 rfl (by kernel_rfl) (by kernel_rfl) rfl rfl rfl (fun _ => Ev.move rfl rfl) ?_
      refine AG.takeW 6 rfl (by kernel_rfl) (by kernel_rfl) rfl rfl rfl (fun _ => Ev.nilC rfl rfl) ?_
      refine AG.takeW 7 rfl (by kernel_rfl) (by kernel_rfl) rfl rfl rfl (fun _ => Ev.idxA rfl rfl rfl Tryz.underlying135 sz_133 (by omega)) ?_
      refine AG.take 8 rfl (by kernel_rfl) (by kernel_rfl) rfl rfl rfl (fun wq hq => Ev.ldRow (r := row) rfl rfl Tryz.underlying133 rfl sz_133 ((hbk.ext hE5).ext hq) (by omega)) ?_
      refine AG.takeW 9 rfl (by kernel_rfl) (by kernel_rfl) rfl rfl rfl (fun _ => Ev.move rfl rfl) ?_
      refine AG.takeW 10 rfl (by kernel_rfl) (by kernel_rfl) rfl rfl rfl (fun _ => Ev.move rfl rfl) ?_
      refine AG.takeW 11 rfl (by kernel_rfl) (by kernel_rfl) rfl rfl rfl (fun _ => Ev.nilC rfl rfl) ?_
      refine AG.takeW 12 rfl (by kernel_rfl) (by kernel_rfl) rfl rfl rfl (fun _ => Ev.idxA rfl rfl rfl Tryz.underlying135 sz_133 (by omega)) ?_
      refine AG.take 13 rfl (by kernel_rfl) (by kernel_rfl) rfl rfl rfl (fun wq hq => Ev.ldRow (r := i) rfl rfl Tryz.underlying133 rfl sz_133 ((hbk.ext hE5).ext hq) (by omega)) ?_
      refine AG.takeW 14 rfl (by kernel_rfl) (by kernel_rfl) rfl rfl rfl (fun _ => Ev.nilC rfl rfl) ?_
      refine AG.takeW 15 rfl (by kernel_rfl) (by kernel_rfl) rfl rfl rfl (fun _ => Ev.idxA rfl rfl rfl Tryz.underlying135 sz_133 (by omega)) ?_
      refine AG.takeW 17 rfl (by kernel_rfl) (by kernel_rfl) rfl rfl rfl (fun _ => Ev.nilC rfl rfl) ?_
      refine AG.only 16 rfl (by kernel_rfl) ?_
      refine RG.stRow (r := i) (M row) rfl rfl rfl rfl rfl sz_133 (hbk.ext hE5) (by omega) (fun ws7 hwws7 hbws7 => ?_)
      replace hxwl1 := Wr.below hxwl1 hwws7 hg0
      refine RG.done ?_
      refine QW.an (fun h => by simp at h) ?_
      refine AG.takeW 18 rfl (by kernel_rfl) (by kernel_rfl) rfl rfl rfl (fun _ => Ev.idxA rfl rfl rfl Tryz.underlying135 sz_133 (by omega)) ?_
      refine AG.only 19 rfl (by kernel_rfl) ?_
      refine RG.stRow (r := row) (M i) rfl rfl rfl rfl rfl sz_133 hbws7 (by omega) (fun ws9 hwws9 hbws9 => ?_)
      replace hxwl1 := Wr.below hxwl1 hwws9 hg0
      replace hbws9 : Blk ws9 g 135 (mc (swp M i row)) := hbws9
      refine RG.done ?_
      refine QW.an (fun h => by simp at h) ?_
      refine AG.done (by kernel_rfl) ?_
      refine QW.sub (S' := [(0, _), (1, _), (5, _)]) ⟨rfl, rfl, rfl, trivial⟩ ?_
      refine QW.then_ ?_
      refine CW.seq ?_
      have hM1 := hel.swp hi hr4
      have es : swp M i row i i = M row i := swp_i M i row i
      have h64 := hel row i hr4 (by omega)
      have hgi := (gi_lt (M row i)).2
      refine CW.region ?_
      refine RG.vl rfl rfl rfl (Ev.move rfl rfl) ?_
      refine RG.vl rfl rfl rfl (Ev.move rfl rfl) ?_
      refine RG.vl rfl rfl rfl (Ev.move rfl rfl) ?_
      refine RG.vl rfl rfl rfl (Ev.nilC rfl rfl) ?_
      refine RG.vl rfl rfl rfl (Ev.idxA rfl rfl rfl Tryz.underlying135 sz_133 (by omega)) ?_
      refine RG.vl rfl rfl rfl (Ev.idxA rfl rfl rfl Tryz.underlying133 sz_5 (by omega)) ?_
      refine RG.vl rfl rfl rfl (Ev.ldAA rfl rfl Tryz.underlying5 rfl (hbws9.cells) ((show (mc _)[i * 5 + i * 1]? = some (.int .u8 (M row i : Int)) by rw [mc_at _ (by omega) (by omega), es]))) ?_
      refine RG.call rfl rfl rfl rfl rfl rfl rfl en_127 (Inv_el _ _ h0 h64) ?_
      rintro _ w10 ⟨rfl, hx10⟩
      replace hxwl1 := Ex.tr hxwl1 hx10
      have hE11 := hx10
      refine RG.vl rfl rfl rfl (Ev.move rfl rfl) ?_
      refine RG.vl rfl rfl rfl (Ev.extract rfl rfl rfl) ?_
      refine RG.vl rfl rfl rfl (Ev.extract rfl rfl rfl) ?_
      refine RG.vl rfl rfl rfl (Ev.assign rfl rfl) ?_
      refine RG.vl rfl rfl rfl (Ev.assign rfl rfl) ?_
      refine RG.done ?_
      refine QW.then_ ?_
      refine CW.seq ?_
      refine CW.seq ?_
      refine CW.region ?_
      refine RG.vl rfl rfl rfl (Ev.move rfl rfl) ?_
      refine RG.done ?_
      refine QW.sub (S' := [(0, _), (1, _), (5, _), (6, _), (51, _)]) ⟨rfl, rfl, rfl, rfl, rfl, trivial⟩ ?_
      refine QW.then_ ?_
      refine CW.block ?_
      refine CW.loop1 [(0, _), (1, _), (5, _), (6, _)] ⟨rfl, rfl, rfl, rfl, trivial⟩ (fun (k : Nat) => [(51, .int .i64 (k : Int))]) (fun k w' => (k ≤ 5 ∧ Blk w' g 135 (mc (scTo (swp M i row) i (gi (M row i)) k))) ∧ Ex w0 w') (fun k => 5 - k) (0) ⟨rfl, trivial⟩ ⟨⟨by omega, by rw [scTo_zero]; exact (hbws9.ext hE11)⟩, hxwl1⟩ ?_
      rintro k wl12 ⟨⟨hk, hbk⟩, hxwl12⟩
      refine CW.sub (S' := [(51, _), (0, _), (1, _), (5, _), (6, _)]) ⟨rfl, rfl, rfl, rfl, rfl, trivial⟩ ?_
      refine CW.seq ?_
      refine CW.region ?_
      refine RG.vl rfl rfl rfl (Ev.lss rfl rfl rfl) ?_
      refine RG.done ?_
      refine QW.then_ ?_
      refine CW.seq ?_
      refine CW.condP rfl (fun hc13 => ?_) (fun hc13 => ?_)
      · refine CW.skip ?_
        refine QW.then_ ?_
        refine CW.seq ?_
        refine CW.block ?_
        refine CW.seq ?_
        refine CW.region ?_
        refine RG.vl rfl rfl rfl (Ev.move rfl rfl) ?_
        refine RG.vl rfl rfl rfl (Ev.assign rfl rfl) ?_
        refine RG.done ?_
        refine QW.then_ ?_
        have e1 : scTo (swp M i row) i (gi (M row i)) k i k = swp M i row i k := by unfold scTo; rw [if_neg (by omega)]
        have h1 := hM1 i k hi (by omega)
        have h2 := gm_lt (swp M i row i k) (gi (M row i))
        refine CW.draw [18] (.ex) 19 rfl mixed (fun wd14 hxwd14 => ?_)
        replace hxwl12 := Ex.tr hxwl12 hxwd14
        have hE15 := hxwd14
        refine AG.takeW 0 rfl (by kernel_rfl) (by kernel_rfl) rfl rfl rfl (fun _ => Ev.move rfl rfl) ?_
        refine AG.takeW 1 rfl (by kernel_rfl) (by kernel_rfl) rfl rfl rfl (fun _ => Ev.move rfl rfl) ?_
        refine AG.takeW 2 rfl (by kernel_rfl) (by kernel_rfl) rfl rfl rfl (fun _ => Ev.move rfl rfl) ?_
        refine AG.takeW 3 rfl (by kernel_rfl) (by kernel_rfl) rfl rfl rfl (fun _ => Ev.move rfl rfl) ?_
        refine AG.takeW 4 rfl (by kernel_rfl) (by kernel_rfl) rfl rfl rfl (fun _ => Ev.move rfl rfl) ?_
        refine AG.takeW 5 rfl (by kernel_rfl) (by kernel_rfl) rfl rfl rfl (fun _ => Ev.move rfl rfl) ?_
        refine AG.takeW 6 rfl (by kernel_rfl) (by kernel_rfl) rfl rfl rfl (fun _ => Ev.nilC rfl rfl) ?_
        refine AG.takeW 7 rfl (by kernel_rfl) (by kernel_rfl) rfl rfl rfl (fun _ => Ev.idxA rfl rfl rfl Tryz.underlying135 sz_133 (by omega)) ?_
        refine AG.takeW 8 rfl (by kernel_rfl) (by kernel_rfl) rfl rfl rfl (fun _ => Ev.idxA rfl rfl rfl Tryz.underlying133 sz_5 (by omega)) ?_
        refine AG.take 9 rfl (by kernel_rfl) (by kernel_rfl) rfl rfl rfl (fun wq hq => Ev.ldAA rfl rfl Tryz.underlying5 rfl (((hbk.ext hE15).ext hq).cells) ((show (mc _)[i * 5 + k * 1]? = some (.int .u8 (swp M i row i k : Int)) by rw [mc_at _ (by omega) (by omega), e1]))) ?_
        refine AG.takeW 10 rfl (by kernel_rfl) (by kernel_rfl) rfl rfl rfl (fun _ => Ev.move rfl rfl) ?_
        refine AG.takeW 15 rfl (by kernel_rfl) (by kernel_rfl) rfl rfl rfl (fun _ => Ev.nilC rfl rfl) ?_
        refine AG.takeW 16 rfl (by kernel_rfl) (by kernel_rfl) rfl rfl rfl (fun _ => Ev.idxA rfl rfl rfl Tryz.underlying135 sz_133 (by omega)) ?_
        refine AG.only 11 rfl (by kernel_rfl) ?_
        refine RG.call rfl rfl rfl rfl rfl rfl rfl en_128 (Mul_el _ _ _ h1 hgi) ?_
        rintro _ w17 ⟨rfl, hx17⟩
        replace hxwl12 := Ex.tr hxwl12 hx17
        replace hE15 := Ex.tr hE15 hx17
        have hE18 := hx17
        refine RG.done ?_
        refine QW.an (fun _ => hE18) ?_
        refine AG.takeW 12 rfl (by kernel_rfl) (by kernel_rfl) rfl rfl rfl (fun _ => Ev.move rfl rfl) ?_
        refine AG.takeW 13 rfl (by kernel_rfl) (by kernel_rfl) rfl rfl rfl (fun _ => Ev.extract rfl rfl rfl) ?_
        refine AG.takeW 14 rfl (by kernel_rfl) (by kernel_rfl) rfl rfl rfl (fun _ => Ev.extract rfl rfl rfl) ?_
        refine AG.takeW 17 rfl (by kernel_rfl) (by kernel_rfl) rfl rfl rfl (fun _ => Ev.idxA rfl rfl rfl Tryz.underlying133 sz_5 (by omega)) ?_
        refine AG.only 18 rfl (by kernel_rfl) ?_
        refine RG.st2 (g := g) rfl rfl rfl rfl rfl sz_5 rfl (hbk.ext hE15) (by rw [mc_len, Nat.blt_eq]; omega) (fun ws20 hwws20 hbws20 => ?_)
        replace hxwl12 := Wr.below hxwl12 hwws20 hg0
        rw [mc_set _ _ (by omega), scTo_more] at hbws20
        refine RG.done ?_
        refine QW.an (fun h => by simp at h) ?_
        refine AG.done (by kernel_rfl) ?_
        refine QW.sub (S' := [(0, _), (1, _), (5, _), (6, _), (51, _)]) ⟨rfl, rfl, rfl, rfl, rfl, trivial⟩ ?_
        refine QW.blockN ?_
        refine QW.then_ ?_
        refine CW.region ?_
        refine RG.vl rfl rfl rfl (Ev.addI rfl rfl rfl (by omega)) ?_
        refine RG.vl rfl rfl rfl (Ev.move rfl rfl) ?_
        refine RG.done ?_
        refine QW.round1 (k + 1) ⟨rfl, trivial⟩ ⟨rfl, rfl, rfl, rfl, trivial⟩ ⟨⟨by omega, hbws20⟩, hxwl12⟩ (by omega)
      · refine CW.exit ?_
        refine QW.thenExit ?_
        refine QW.thenExit ?_
        refine QW.blockHit ?_
        refine QW.then_ ?_
        refine CW.seq ?_
        refine CW.region ?_
        refine RG.vl rfl rfl rfl (Ev.assign rfl rfl) ?_
        refine RG.done ?_
        refine QW.then_ ?_
        refine CW.ret ?_
        refine QW.blockR ?_
        refine QW.thenRet ?_
        refine QW.thenRet ?_
        refine QW.blockR ?_
        refine QW.thenRet ?_
        refine QW.ret1 rfl rfl ?_
        obtain rfl : k = 5 := by omega
        exact ⟨true, _, rfl, hbk, fun _ => ⟨row, hrow, by omega, h0, rfl⟩, (fun h => by cases h), hxwl12⟩
  · refine CW.exit ?_
    refine QW.thenExit ?_
    refine QW.thenExit ?_
    refine QW.blockHit ?_
    refine QW.then_ ?_
    refine CW.seq ?_
    refine CW.region ?_
    refine RG.vl rfl rfl rfl (Ev.assign rfl rfl) ?_
    refine RG.done ?_
    refine QW.then_ ?_
    refine CW.ret ?_
    refine QW.ret1 rfl rfl ?_
    obtain rfl : row = 4 := by omega
    exact ⟨false, M, rfl, hbk, (fun h => by cases h), fun _ => ⟨rfl, fun r h1 h2 => hz r h1 h2⟩, hxwl1⟩

set_option maxRecDepth 100000 in
set_option maxHeartbeats 2000000 in
theorem solve_ret (w0 : World) (g k : Nat) (M : Mx) (w : World) (hx0 : Ex w0 w) (hg0 : w0.heap.size ≤ g) (hb : Blk w g 135 (mc M)) (hel : EM M) (hk4 : k ≤ 4) :
    Ret Tryz.prog 70 [.pointer (some ⟨g, 0, none⟩), .int .i64 (k : Int)] w (fun v w' => ∃ b M', v = .bool b ∧ Blk w' g 135 (mc M') ∧ SolvR M k b M' ∧ Ex w0 w') := by
  have hB0 : Ex w w := Ex.rfl_ _
  refine Ret.of Tryz.func70 rfl Tryz.ntmps70 rfl ?_
  refine CW.seq ?_
  refine CW.region ?_
  refine RG.vl rfl rfl rfl (Ev.assign rfl rfl) ?_
  refine RG.done ?_
  refine QW.then_ ?_
  refine CW.seq ?_
  refine CW.seq ?_
  refine CW.region ?_
  refine RG.vl rfl rfl rfl (Ev.move rfl rfl) ?_
  refine RG.vl rfl rfl rfl (Ev.move rfl rfl) ?_
  refine RG.done ?_
  refine QW.then_ ?_
  refine CW.block ?_
  refine CW.loop2 [(0, _), (1, _), (8, _)] ⟨rfl, rfl, rfl, trivial⟩ (fun (i : Nat) (M2 : Mx) => [(9, .int .i64 (i : Int))]) (fun i M2 w' => (i ≤ k ∧ Gs M k M2 i ∧ Blk w' g 135 (mc M2)) ∧ Ex w0 w') (fun i M2 => k - i) (0) (M) ⟨rfl, trivial⟩ ⟨⟨Nat.zero_le _, gs_start hel, hb⟩, hx0⟩ ?_
  rintro i M2 wl1 ⟨⟨hik, hgs, hbk⟩, hxwl1⟩
  refine CW.sub (S' := [(9, _), (0, _), (1, _), (8, _)]) ⟨rfl, rfl, rfl, rfl, trivial⟩ ?_
  refine CW.seq ?_
  refine CW.region ?_
  refine RG.vl rfl rfl rfl (Ev.lss rfl rfl rfl) ?_
  refine RG.done ?_
  refine QW.then_ ?_
  refine CW.seq ?_
  refine CW.condP rfl (fun hc2 => ?_) (fun hc2 => ?_)
  · refine CW.skip ?_
    refine QW.then_ ?_
    refine CW.seq ?_
    refine CW.block ?_
    refine CW.seq ?_
    refine CW.region ?_
    refine RG.vl rfl rfl rfl (Ev.move rfl rfl) ?_
    refine RG.vl rfl rfl rfl (Ev.assign rfl rfl) ?_
    refine RG.done ?_
    refine QW.then_ ?_
    refine CW.seq ?_
    refine CW.seq ?_
    refine CW.region ?_
    refine RG.vl rfl rfl rfl (Ev.move rfl rfl) ?_
    refine RG.vl rfl rfl rfl (Ev.move rfl rfl) ?_
    refine RG.call rfl rfl rfl rfl rfl rfl rfl en_113 (pivot_ret w0 g i M2 _ hxwl1 hg0 hbk hgs.el (by omega)) ?_
    rintro _ w3 ⟨bv, M3, rfl, hbw4, hyp, hno, hxw5⟩
    replace hxwl1 := hxw5
    refine RG.vl rfl rfl rfl (Ev.not rfl rfl) ?_
    refine RG.done ?_
    refine QW.then_ ?_
    refine CW.cond rfl (fun hc6 => ?_) (fun hc6 => ?_)
    · refine CW.seq ?_
      have hbv : bv = false := by simpa using (by assumption : (!bv) = true)
      refine CW.region ?_
      refine RG.vl rfl rfl rfl (Ev.assign rfl rfl) ?_
      refine RG.done ?_
      refine QW.then_ ?_
      refine CW.ret ?_
      refine QW.thenRet ?_
      refine QW.blockR ?_
      refine QW.thenRet ?_
      refine QW.thenRet ?_
      refine QW.blockR ?_
      refine QW.thenRet ?_
      refine QW.ret1 rfl rfl ?_
      obtain ⟨rfl, hz⟩ := hno hbv
      exact ⟨false, _, rfl, hbw4, gs_none hgs hk4 (by omega) hz, hxwl1⟩
    · refine CW.skip ?_
      refine QW.then_ ?_
      refine CW.seq ?_
      have hbv : bv = true := by simpa using (by assumption : (!bv) = false)
      obtain ⟨r0, hr1, hr2, hr3, rfl⟩ := hyp hbv
      have hgr0 := gs_piv hgs hk4 (by omega) hr1 hr2 hr3
      refine CW.region ?_
      refine RG.vl rfl rfl rfl (Ev.move rfl rfl) ?_
      refine RG.done ?_
      refine QW.then_ ?_
      refine CW.block ?_
      refine CW.loop2 [(0, _), (1, _), (5, _), (8, _), (9, _)] ⟨rfl, rfl, rfl, rfl, rfl, trivial⟩ (fun (row : Nat) (M4 : Mx) => [(16, .int .i64 (row : Int))]) (fun row M4 w' => (row ≤ 4 ∧ Gr M k M4 i row ∧ Blk w' g 135 (mc M4)) ∧ Ex w0 w') (fun row M4 => 4 - row) (0) (_) ⟨rfl, trivial⟩ ⟨⟨by omega, hgr0, hbw4⟩, hxwl1⟩ ?_
      rintro row M4 wl7 ⟨⟨hrow, hgr, hbk⟩, hxwl7⟩
      refine CW.sub (S' := [(16, _), (0, _), (1, _), (5, _), (8, _), (9, _)]) ⟨rfl, rfl, rfl, rfl, rfl, rfl, trivial⟩ ?_
      refine CW.seq ?_
      refine CW.region ?_
      refine RG.vl rfl rfl rfl (Ev.lss rfl rfl rfl) ?_
      refine RG.done ?_
      refine QW.then_ ?_
      refine CW.seq ?_
      refine CW.condP rfl (fun hc8 => ?_) (fun hc8 => ?_)
      · refine CW.skip ?_
        refine QW.then_ ?_
        refine CW.seq ?_
        refine CW.block ?_
        refine CW.seq ?_
        refine CW.region ?_
        refine RG.vl rfl rfl rfl (Ev.move rfl rfl) ?_
        refine RG.vl rfl rfl rfl (Ev.assign rfl rfl) ?_
        refine RG.done ?_
        refine QW.then_ ?_
        refine CW.seq ?_
        refine CW.region ?_
        refine RG.vl rfl rfl rfl (Ev.move rfl rfl) ?_
        refine RG.vl rfl rfl rfl (Ev.move rfl rfl) ?_
        refine RG.vl rfl rfl rfl (Ev.neI rfl rfl rfl) ?_
        refine RG.vl rfl rfl rfl (Ev.move rfl rfl) ?_
        refine RG.split (d := 22) rfl (fun hg9 => ?_) (fun hg9 => ?_)
        · refine RG.vl rfl rfl rfl (Ev.move rfl rfl) ?_
          refine RG.vl rfl rfl rfl (Ev.move rfl rfl) ?_
          refine RG.vl rfl rfl rfl (Ev.move rfl rfl) ?_
          refine RG.vl rfl rfl rfl (Ev.nilC rfl rfl) ?_
          refine RG.vl rfl rfl rfl (Ev.idxA rfl rfl rfl Tryz.underlying135 sz_133 (by omega)) ?_
          refine RG.vl rfl rfl rfl (Ev.idxA rfl rfl rfl Tryz.underlying133 sz_5 (by omega)) ?_
          refine RG.vl rfl rfl rfl (Ev.ldAA rfl rfl Tryz.underlying5 rfl (hbk.cells) ((show (mc _)[row * 5 + i * 1]? = some (.int .u8 (M4 row i : Int)) by rw [mc_at _ (by omega) (by omega)]))) ?_
          refine RG.vl rfl rfl rfl (Ev.neI rfl rfl rfl) ?_
          refine RG.vl rfl rfl rfl (Ev.pickT rfl rfl rfl) ?_
          refine RG.done ?_
          refine QW.sub (S' := [(0, _), (1, _), (5, _), (6, _), (8, _), (9, _), (16, _), (31, _)]) ⟨rfl, rfl, rfl, rfl, rfl, rfl, rfl, rfl, trivial⟩ ?_
          refine QW.then_ ?_
          refine CW.condP rfl (fun hc10 => ?_) (fun hc10 => ?_)
          · refine CW.region ?_
            refine RG.vl rfl rfl rfl (Ev.move rfl rfl) ?_
            refine RG.vl rfl rfl rfl (Ev.move rfl rfl) ?_
            refine RG.vl rfl rfl rfl (Ev.move rfl rfl) ?_
            refine RG.vl rfl rfl rfl (Ev.move rfl rfl) ?_
            refine RG.vl rfl rfl rfl (Ev.move rfl rfl) ?_
            refine RG.vl rfl rfl rfl (Ev.move rfl rfl) ?_
            refine RG.vl rfl rfl rfl (Ev.nilC rfl rfl) ?_
            refine RG.vl rfl rfl rfl (Ev.idxA rfl rfl rfl Tryz.underlying135 sz_133 (by omega)) ?_
            refine RG.vl rfl rfl rfl (Ev.idxA rfl rfl rfl Tryz.underlying133 sz_5 (by omega)) ?_
            refine RG.vl rfl rfl rfl (Ev.ldAA rfl rfl Tryz.underlying5 rfl (hbk.cells) ((show (mc _)[row * 5 + i * 1]? = some (.int .u8 (M4 row i : Int)) by rw [mc_at _ (by omega) (by omega)]))) ?_
            refine RG.call rfl rfl rfl rfl rfl rfl rfl en_114 (subtract_ret w0 g row i (M4 row i) M4 _ hxwl7 hg0 hbk hgr.el (by omega) (by omega) (hgr.el row i (by omega) (by omega))) ?_
            rintro _ w11 ⟨rfl, hbw12, hxw13⟩
            replace hxwl7 := hxw13
            refine RG.done ?_
            refine QW.blockN ?_
            refine QW.then_ ?_
            refine CW.region ?_
            refine RG.vl rfl rfl rfl (Ev.addI rfl rfl rfl (by omega)) ?_
            refine RG.vl rfl rfl rfl (Ev.move rfl rfl) ?_
            refine RG.done ?_
            refine QW.round2 (row + 1) (_) ⟨rfl, trivial⟩ ⟨rfl, rfl, rfl, rfl, rfl, trivial⟩ ⟨⟨by omega, gr_sub hgr hk4 (by omega) (by omega) (by omega), hbw12⟩, hxwl7⟩ (by omega)
          · refine CW.skip ?_
            refine QW.blockN ?_
            refine QW.then_ ?_
            refine CW.region ?_
            refine RG.vl rfl rfl rfl (Ev.addI rfl rfl rfl (by omega)) ?_
            refine RG.vl rfl rfl rfl (Ev.move rfl rfl) ?_
            refine RG.done ?_
            refine QW.round2 (row + 1) (M4) ⟨rfl, trivial⟩ ⟨rfl, rfl, rfl, rfl, rfl, trivial⟩ ⟨⟨by omega, gr_skip hgr (by omega), hbk⟩, hxwl7⟩ (by omega)
        · refine RG.pass rfl rfl rfl ?_
          refine RG.pass rfl rfl rfl ?_
          refine RG.pass rfl rfl rfl ?_
          refine RG.pass rfl rfl rfl ?_
          refine RG.pass rfl rfl rfl ?_
          refine RG.pass rfl rfl rfl ?_
          refine RG.pass rfl rfl rfl ?_
          refine RG.pass rfl rfl rfl ?_
          refine RG.vl rfl rfl rfl (Ev.pickF rfl rfl rfl) ?_
          refine RG.done ?_
          refine QW.sub (S' := [(0, _), (1, _), (5, _), (6, _), (8, _), (9, _), (16, _), (31, _)]) ⟨rfl, rfl, rfl, rfl, rfl, rfl, rfl, rfl, trivial⟩ ?_
          refine QW.then_ ?_
          refine CW.condF rfl ?_
          refine CW.skip ?_
          refine QW.blockN ?_
          refine QW.then_ ?_
          refine CW.region ?_
          refine RG.vl rfl rfl rfl (Ev.addI rfl rfl rfl (by omega)) ?_
          refine RG.vl rfl rfl rfl (Ev.move rfl rfl) ?_
          refine RG.done ?_
          refine QW.round2 (row + 1) (M4) ⟨rfl, trivial⟩ ⟨rfl, rfl, rfl, rfl, rfl, trivial⟩ ⟨⟨by omega, gr_skip hgr (by omega), hbk⟩, hxwl7⟩ (by omega)
      · refine CW.exit ?_
        refine QW.thenExit ?_
        refine QW.thenExit ?_
        refine QW.blockHit ?_
        refine QW.blockN ?_
        refine QW.then_ ?_
        refine CW.region ?_
        refine RG.vl rfl rfl rfl (Ev.addI rfl rfl rfl (by omega)) ?_
        refine RG.vl rfl rfl rfl (Ev.move rfl rfl) ?_
        refine RG.done ?_
        refine QW.round2 (i + 1) (M4) ⟨rfl, trivial⟩ ⟨rfl, rfl, rfl, trivial⟩ ⟨⟨by omega, by obtain rfl : row = 4 := (by omega); exact gr_end hgr (by omega), hbk⟩, hxwl7⟩ (by omega)
  · refine CW.exit ?_
    refine QW.thenExit ?_
    refine QW.thenExit ?_
    refine QW.blockHit ?_
    refine QW.then_ ?_
    refine CW.seq ?_
    refine CW.seq ?_
    obtain rfl : i = k := by omega
    refine CW.region ?_
    refine RG.vl rfl rfl rfl (Ev.move rfl rfl) ?_
    refine RG.vl rfl rfl rfl (Ev.assign rfl rfl) ?_
    refine RG.done ?_
    refine QW.then_ ?_
    refine CW.block ?_
    refine CW.loop1 [(0, _)] ⟨rfl, trivial⟩ (fun (row : Nat) => [(7, .int .i64 (row : Int))]) (fun row w' => (i ≤ row ∧ row ≤ 4 ∧ (∀ r, i ≤ r → r < row → M2 r 4 = 0) ∧ Blk w' g 135 (mc M2)) ∧ Ex w0 w') (fun row => 4 - row) (i) ⟨rfl, trivial⟩ ⟨⟨Nat.le_refl _, hk4, fun r h1 h2 => absurd h1 (by omega), hbk⟩, hxwl1⟩ ?_
    rintro row wl14 ⟨⟨hrk, hrow4, hz4, hbk⟩, hxwl14⟩
    refine CW.sub (S' := [(7, _), (0, _)]) ⟨rfl, rfl, trivial⟩ ?_
    refine CW.seq ?_
    refine CW.seq ?_
    refine CW.region ?_
    refine RG.vl rfl rfl rfl (Ev.move rfl rfl) ?_
    refine RG.vl rfl rfl rfl (Ev.lss rfl rfl rfl) ?_
    refine RG.done ?_
    refine QW.then_ ?_
    refine CW.condP rfl (fun hc15 => ?_) (fun hc15 => ?_)
    · refine CW.skip ?_
      refine QW.then_ ?_
      refine CW.seq ?_
      refine CW.block ?_
      refine CW.seq ?_
      refine CW.region ?_
      refine RG.vl rfl rfl rfl (Ev.move rfl rfl) ?_
      refine RG.vl rfl rfl rfl (Ev.move rfl rfl) ?_
      refine RG.vl rfl rfl rfl (Ev.nilC rfl rfl) ?_
      refine RG.vl rfl rfl rfl (Ev.idxA rfl rfl rfl Tryz.underlying135 sz_133 (by omega)) ?_
      refine RG.vl rfl rfl rfl (Ev.idxA (i := 4) rfl rfl rfl Tryz.underlying133 sz_5 (by omega)) ?_
      refine RG.vl rfl rfl rfl (Ev.ldAA rfl rfl Tryz.underlying5 rfl (hbk.cells) ((show (mc _)[row * 5 + 4 * 1]? = some (.int .u8 (M2 row 4 : Int)) by rw [mc_at _ (by omega) (by omega)]))) ?_
      refine RG.vl rfl rfl rfl (Ev.neI rfl rfl rfl) ?_
      refine RG.done ?_
      refine QW.then_ ?_
      refine CW.condP rfl (fun hc16 => ?_) (fun hc16 => ?_)
      · refine CW.seq ?_
        refine CW.region ?_
        refine RG.vl rfl rfl rfl (Ev.assign rfl rfl) ?_
        refine RG.done ?_
        refine QW.then_ ?_
        refine CW.ret ?_
        refine QW.blockR ?_
        refine QW.thenRet ?_
        refine QW.thenRet ?_
        refine QW.blockR ?_
        refine QW.thenRet ?_
        refine QW.ret1 rfl rfl ?_
        exact ⟨false, _, rfl, hbk, gs_no hgs hrk (by omega) (by omega), hxwl14⟩
      · refine CW.skip ?_
        refine QW.blockN ?_
        refine QW.then_ ?_
        refine CW.region ?_
        refine RG.vl rfl rfl rfl (Ev.move rfl rfl) ?_
        refine RG.vl rfl rfl rfl (Ev.addI rfl rfl rfl (by omega)) ?_
        refine RG.vl rfl rfl rfl (Ev.assign rfl rfl) ?_
        refine RG.done ?_
        refine QW.round1 (row + 1) ⟨rfl, trivial⟩ ⟨rfl, trivial⟩ ⟨⟨by omega, by omega, fun r h1 h2 => by rcases Nat.lt_or_ge r row with h | h; exact hz4 r h1 h; obtain rfl : r = row := (by omega); omega, hbk⟩, hxwl14⟩ (by omega)
    · refine CW.exit ?_
      refine QW.thenExit ?_
      refine QW.thenExit ?_
      refine QW.blockHit ?_
      refine QW.then_ ?_
      refine CW.seq ?_
      refine CW.region ?_
      refine RG.vl rfl rfl rfl (Ev.assign rfl rfl) ?_
      refine RG.done ?_
      refine QW.then_ ?_
      refine CW.ret ?_
      refine QW.ret1 rfl rfl ?_
      obtain rfl : row = 4 := by omega
      exact ⟨true, _, rfl, hbk, gs_yes hgs hk4 (fun r h1 h2 => hz4 r h1 h2), hxwl14⟩

end Go.Proofs.YtgjnchjkjdnidaaGreat

/- A range over a function whose iterator tells something of the memory behind each element; a return of two boxed results behind it. -/
namespace Go.Proofs.YtgjnchjkjdnidaaGreat
open Go.RowKit
/-- What a round that goes on keeps: all that lay below n0; every block of cells. -/
def Kc (n0 : Nat) (A B : World) : Prop := Below n0 A B ∧ ∀ (k : Nat) (c : Array Value) (T : TypeId) (fz : Nat × Nat), A.heap[k]? = some (.cells c T fz) → B.heap[k]? = some (.cells c T fz)
theorem Kc.trans {n0 : Nat} {A B C : World} (h : Kc n0 A B) (k : Kc n0 B C) : Kc n0 A C := ⟨Below.trans h.1 k.1, fun i c T fz hi => k.2 i c T fz (h.2 i c T fz hi)⟩
theorem grown_put {A : World} {l : Nat} (o' : Obj) : A.grownBy (A.putObj l o') (some l) :=
  ⟨rfl, rfl, rfl, by simp, fun k _ hk => World.putObj_heap_other (fun e => hk (by rw [e]))⟩
theorem Kc.put {n0 : Nat} {A : World} {l : Nat} {o : Obj} (o' : Obj) (hl : n0 ≤ l) (h : A.heap[l]? = some o) (hc : o.isCells = false) : Kc n0 A (A.putObj l o') := by
  refine ⟨(Below.refl _ A).grown (grown_put o') (by have := (Array.getElem?_eq_some_iff.1 h).1; omega) (fun k e => by cases e; exact hl), fun k c T fz hk => ?_⟩
  have hne : k ≠ l := fun e => by subst e; rw [h] at hk; cases hk; cases hc
  exact (World.putObj_heap_other hne).trans hk
theorem Kc.of_ex {n0 : Nat} {A B : World} (h : Ex A B) (hn : n0 ≤ A.heap.size) : Kc n0 A B := ⟨Below.mono h hn, fun k _ _ _ hk => (h.block k (Array.getElem?_eq_some_iff.1 hk).1).trans hk⟩
theorem others_ex {A B : World} (h : Ex A B) : KeepsOthers A B := ⟨h.size, fun k _ hk _ => (h.block k (Array.getElem?_eq_some_iff.1 hk).1).trans hk⟩
/-- How the body of a round is left. -/
def toldPost {α : Type} (n0 : Nat) (I Ix : List α → World → Prop) (xs : List α) (A : World) : Exit → Act → World → Prop
  | .normal, _, B => KeepsOthers A B ∧ Kc n0 A B ∧ I xs B
  | .ret, _, B => KeepsOthers A B ∧ Ix xs B
  | _, _, _ => False
/-- An invariant that does not mind new blocks, nor what happens to blocks from n on. -/
def Calm {α : Type} (n : Nat) (J : List α → World → Prop) : Prop := ∀ s A B row, J s A → A.grownBy B row → (∀ r, row = some r → n ≤ r) → J s B
/-- What an iterator promises that tells Rx of each element. -/
def SeqTold {α : Type} (k : Nat) (P : Program) (gf : Nat) (lb : Array Value) (encs : α → Array Value) (Rx : List α → α → World → Prop) (S : List α → Prop) (w : World) : Prop :=
  ∀ (l : Nat) (J Jx : List α → World → Prop) (W : World), Below w.heap.size w W → w.heap.size ≤ W.heap.size → Calm W.heap.size J →
    (∀ pre x A, J pre A → Rx pre x A → YieldAt Fence.wide (k - 1) P l (encs x) A fun e B => (e = .returned (.bool true) ∧ J (pre ++ [x]) B ∧ Kc w.heap.size A B) ∨ (e = .returned (.bool false) ∧ Jx (pre ++ [x]) B)) →
    J [] W → CallsIn Fence.wide k P gf (#[.func (.yield l) #[] #[]] ++ lb) W fun e B => (∃ v, e = .returned v) ∧ ((∃ xs, S xs ∧ J xs B) ∨ ∃ pre, Jx pre B)
theorem wpIn_rangeTold {α : Type} {P : Program} {g : Operand} {ps : Array Tmp} {assign body : Code} {Q : Exit → Act → World → Prop} {a : Act} {w : World} {k : Nat} (h1 : 1 ≤ k) {gf : Nat} {lb : Array Value}
    (hg : a.eval g = .func (.func gf) #[] lb) (eg : ∀ args w, (callFunc gf args).run P w = .ok (.enter gf args) w) {encs : α → Array Value} {Rx : List α → α → World → Prop} {S : List α → Prop} (hseq : SeqTold (k - 1) P gf lb encs Rx S w) (hps : ∀ x, (encs x).size = ps.size)
    (I Ix : List α → World → Prop) (hI : Calm w.heap.size I) (hIx : ∀ s A l o o', Ix s A → w.heap.size ≤ l → A.heap[l]? = some o → o.isCells = false → Ix s (A.putObj l o'))
    (hRx : ∀ s x A l o o', Rx s x A → A.heap[l]? = some o → o.isCells = false → Rx s x (A.putObj l o')) (h0 : I [] w) (a₁ : α → Act)
    (hassign : ∀ (l : Nat) (x : α) (W : World) (K : Act → World → Prop), K (a₁ x) W → assign.wpIn (Fence.wide.inRound l) (k - 1 - 1) P (Exit.then K (fun _ _ _ => False)) { tmps := (ps.zip (encs x)).foldl (fun t (p, v) => t.setIfInBounds p v) a.tmps, defers := [] } W)
    (hbody : ∀ (l : Nat) (pre : List α) (x : α) (W : World), I pre W → Rx pre x W → body.wpIn (Fence.wide.inRound l) (k - 1 - 1) P (toldPost w.heap.size I Ix (pre ++ [x]) W) (a₁ x) W)
    (hdone : ∀ (D : Nat) (xs : List α) (W : World), w.heap.size ≤ D → S xs → I xs W → W.heap[D]? = some (.deferred (some [])) → Q .normal { a with defers := { target := .collected D, args := #[] } :: a.defers } W)
    (hstop : ∀ (D : Nat) (pre : List α) (W : World), w.heap.size ≤ D → Ix pre W → W.heap[D]? = some (.deferred (some [])) → Code.ret.wpIn Fence.wide k P Q { a with defers := { target := .collected D, args := #[] } :: a.defers } W) :
    (Code.rangeFunc g ps assign body).wpIn Fence.wide k P Q a w := by
  refine wpIn_rangeFunc fun fn hfn => ?_
  obtain ⟨rec, hrec⟩ : ∃ rec : LoopState → Option Code → Loop, rec = fun st pe => { state := st, pending := pe, fn, tmps := a.tmps, params := ps, assign, body, defers := w.heap.size } := ⟨_, rfl⟩
  obtain ⟨W1, hW1⟩ : ∃ W1, (w.alloc (.deferred (some []))).alloc (.loop (rec .ready none)) = W1 := ⟨_, rfl⟩
  have hsz : W1.heap.size = w.heap.size + 2 := by rw [← hW1]; simp
  have hL1 : W1.heap[w.heap.size + 1]? = some (.loop (rec .ready none)) := by
    have := World.alloc_heap_new (w.alloc (.deferred (some []))) (.loop (rec .ready none))
    rw [World.size_alloc, hW1] at this; exact this
  have hK1 : W1.heap[w.heap.size]? = some (.deferred (some [])) := by
    rw [← hW1]; exact (Below.heap_alloc _ _ _ (by simp)).trans (World.alloc_heap_new w _)
  have hx1 : Ex w W1 := by rw [← hW1]; exact Ex.tr (Ex.of_alloc w _) (Ex.of_alloc _ _)
  have hI1 : I [] W1 := hI [] w W1 none h0 ⟨hx1.os, hx1.tape, hx1.output, hx1.size, fun k hk _ => hx1.block k hk⟩ (fun r e => by cases e)
  have putI : ∀ s A o', I s A → I s (A.putObj (w.heap.size + 1) o') := fun s A o' h => hI s A _ (some (w.heap.size + 1)) h (grown_put o') (fun r e => by cases e; omega)
  refine ⟨w.heap.size + 1, [{ target := .collected w.heap.size, args := #[] }], W1, { target := .fn (.func gf) lb, args := #[.func (.yield (w.heap.size + 1)) #[] #[]] }, W1, gf, #[.func (.yield (w.heap.size + 1)) #[] #[]] ++ lb, W1, ?_, ?_, fun f' _ => trivial, ?_, fun _ => h1, ?_⟩
  · rw [← hW1, hrec]; exact run_enterLoop_outer _ _ _ _ _
  · simp only [resolve, hg]
    simp [go_sem]
  · simp [invoke, go_sem, eg]
  refine (hseq (w.heap.size + 1) (fun pre A => I pre A ∧ A.heap[w.heap.size + 1]? = some (.loop (rec .ready none)) ∧ A.heap[w.heap.size]? = some (.deferred (some [])))
    (fun pre A => Ix pre A ∧ A.heap[w.heap.size + 1]? = some (.loop (rec .done (some .ret))) ∧ A.heap[w.heap.size]? = some (.deferred (some []))) W1 hx1 hx1.size ?_ ?_ ⟨hI1, hL1, hK1⟩).mono ?_
  · rintro s A B row ⟨h, hl, hk⟩ hgr hr
    have l1 := (Array.getElem?_eq_some_iff.1 hl).1
    have l2 := (Array.getElem?_eq_some_iff.1 hk).1
    exact ⟨hI s A B row h hgr (fun r e => by have := hr r e; omega), (hgr.block _ l1 (fun e => by have := hr _ e.symm; omega)).trans hl, (hgr.block _ l2 (fun e => by have := hr _ e.symm; omega)).trans hk⟩
  · rintro pre x A ⟨hi, hl, hk⟩ hrx
    have hlt : w.heap.size + 1 < A.heap.size := (Array.getElem?_eq_some_iff.1 hl).1
    have hy := run_yield (P := P) (args := encs x) hl (by rw [hrec]; exact hps x)
    rw [hrec] at hy
    refine ⟨fn, _, assign, body, hy, roundIn_of_wpIn hfn (hassign _ x A _ ⟨_, run_beginRound hl (by rw [hrec]), ?_⟩)⟩
    obtain ⟨A2, hA2⟩ : ∃ A2, A.putObj (w.heap.size + 1) (.loop { rec .ready none with state := .busy }) = A2 := ⟨_, rfl⟩
    have hl2 : A2.heap[w.heap.size + 1]? = some (.loop { rec .ready none with state := .busy }) := by rw [← hA2]; exact World.putObj_heap_same hlt
    have hk2 : A2.heap[w.heap.size]? = some (.deferred (some [])) := by rw [← hA2]; exact (World.putObj_heap_other (by omega)).trans hk
    have hkc : Kc w.heap.size A A2 := by rw [← hA2]; exact Kc.put _ (by omega) hl rfl
    have hi2 : I pre A2 := by rw [← hA2]; exact putI _ _ _ hi
    have hrx2 : Rx pre x A2 := by rw [← hA2]; exact hRx _ _ _ _ _ _ hrx hl rfl
    rw [hA2]
    refine wpIn_mono (hbody _ pre x A2 hi2 hrx2) ?_
    rintro e a3 B hp
    have fin : ∀ (jump : Option Code), KeepsOthers A2 B → (Instr.endRound (w.heap.size + 1) jump).run P B = .ok (.bool jump.isNone) (B.putObj (w.heap.size + 1) (.loop (rec (if jump.isNone then .ready else .done) jump))) ∧ B.heap[w.heap.size + 1]? = some (.loop { rec .ready none with state := .busy }) ∧
        (B.putObj (w.heap.size + 1) (.loop (rec (if jump.isNone then .ready else .done) jump))).heap[w.heap.size + 1]? = some (.loop (rec (if jump.isNone then .ready else .done) jump)) ∧
        (B.putObj (w.heap.size + 1) (.loop (rec (if jump.isNone then .ready else .done) jump))).heap[w.heap.size]? = some (.deferred (some [])) := fun jump hko => by
      have hl3 := hko.same _ _ hl2 rfl
      have := run_endRound (P := P) jump hl3
      rw [hrec] at this ⊢
      exact ⟨this, by rw [hrec] at hl3; exact hl3, World.putObj_heap_same (Array.getElem?_eq_some_iff.1 hl3).1, (World.putObj_heap_other (by omega)).trans (hko.same _ _ hk2 rfl)⟩
    cases e with
    | normal =>
      obtain ⟨hko, hkb, hib⟩ := hp
      obtain ⟨hr, hl3, hl4, hk4⟩ := fin none hko
      exact ⟨_, _, hr, .inl ⟨rfl, ⟨putI _ _ _ hib, hl4, hk4⟩, (hkc.trans hkb).trans (Kc.put _ (by omega) hl3 rfl)⟩⟩
    | ret =>
      obtain ⟨hko, hib⟩ := hp
      obtain ⟨hr, hl3, hl4, hk4⟩ := fin (some .ret) hko
      exact ⟨_, _, hr, .inr ⟨rfl, hIx _ _ _ _ _ hib (by omega) hl3 rfl, hl4, hk4⟩⟩
    | exit id => exact hp.elim
    | goto t => exact hp.elim
    | panic ch => exact hp.elim
    | outgrown => exact hp.elim
  · rintro e B ⟨⟨v, rfl⟩, ⟨xs, hS, hi, hl, hk⟩ | ⟨pre, hi, hl, hk⟩⟩
    · refine ⟨none, _, (by have := run_endLoop (P := P) hl (by rw [hrec]; simp); rw [hrec] at this; exact this), hdone _ xs _ (Nat.le_refl _) hS (putI _ _ _ hi) ((World.putObj_heap_other (by omega)).trans hk)⟩
    · refine ⟨some .ret, _, (by have := run_endLoop (P := P) hl (by rw [hrec]; simp); rw [hrec] at this; exact this), hstop _ pre _ (Nat.le_refl _) (hIx _ _ _ _ _ hi (by omega) hl rfl) ((World.putObj_heap_other (by omega)).trans hk)⟩
/-! results in two boxes -/
section
variable {P : Program} {Q : Exit → Act → World → Prop} {k n : Nat} {S : Slots} {w : World}
theorem CWI.ofCW {c : Code} (h : CW P c Q n S w) : CWI Fence.wide k P c Q [] n S w := fun a ha => wpIn_wide.2 (h a ha.fr)
theorem results_cells2 {fn : Func} {tmps : Array Value} {p q T U m g h : Nat} {D E : TypeDesc} {us : List Value} {x : Value} {t2 : TypeId} (hr : fn.results = #[.cell p T, .cell q U]) (hp : tmps.getD p undef = .pointer (some ⟨g, 0, none⟩)) (hq : tmps.getD q undef = .pointer (some ⟨h, 0, none⟩))
    (ht : P.underlying T = some D) (hD : aggD D = true) (hs : sizeP P T = some m) (hm : us.length = m) (hb : Blk w g T us) (hu : P.underlying U = some E) (hE : aggD E = false) (hb2 : Blk w h t2 [x]) : (results fn tmps).run P w = .ok (.tuple #[.agg us.toArray, x]) w := by
  have hl := run_loadCells_list (P := P) w ⟨g, 0, none⟩ us (fun j v hj => hb.cells j v hj)
  have hc : w.cell? ⟨h, 0, none⟩ = some x := by have := hb2.cells 0 x rfl; rwa [add_zero_] at this
  simp only [results, hr]
  have hp' : tmps[p]?.getD undef = .pointer (some ⟨g, 0, none⟩) := by simpa [Array.getD_eq_getD_getElem?] using hp
  have hq' : tmps[q]?.getD undef = .pointer (some ⟨h, 0, none⟩) := by simpa [Array.getD_eq_getD_getElem?] using hq
  simp [Sem.run_bind, Result.andThen, hp', hq', asAddr, loadVar, run_isAgg ht, hD, run_sizeOf hs, ← hm, hl, run_isAgg hu, hE, hc]
/-- A return of two boxed results ahead of the range, and behind it. -/
theorem retBox {fn : Func} {Φ : Value → World → Prop} {p q T U m g h : Nat} {D E : TypeDesc} {us : List Value} {x : Value} {t2 : TypeId} (hr : fn.results = #[.cell p T, .cell q U]) (hp : lk S p = some (.pointer (some ⟨g, 0, none⟩))) (hq : lk S q = some (.pointer (some ⟨h, 0, none⟩)))
    (ht : P.underlying T = some D) (hD : aggD D = true) (hs : sizeP P T = some m) (hm : us.length = m) (hb : Blk w g T us) (hu : P.underlying U = some E) (hE : aggD E = false) (hb2 : Blk w h t2 [x]) (hφ : Φ (.tuple #[.agg us.toArray, x]) w) :
    QW (bodyPostM Fence.wide k P fn (fun e w' => ∃ v, e = .returned v ∧ Φ v w')) .ret n S w := by
  intro a ha
  have hp' : a.tmps.getD p undef = .pointer (some ⟨g, 0, none⟩) := by have := ha.eval (x := .tmp p) hp; simpa [Act.eval, Array.getD_eq_getD_getElem?] using this
  have hq' : a.tmps.getD q undef = .pointer (some ⟨h, 0, none⟩) := by have := ha.eval (x := .tmp q) hq; simpa [Act.eval, Array.getD_eq_getD_getElem?] using this
  show LeavesInM Fence.wide k P fn a.tmps _ a.defers .returning w
  rw [ha.df]
  exact ⟨_, results_cells2 hr hp' hq' ht hD hs hm hb hu hE hb2, _, rfl, hφ⟩
theorem retBoxM {fn : Func} {Φ : Value → World → Prop} {p q T U m g h d : Nat} {D E : TypeDesc} {us : List Value} {x : Value} {t2 : TypeId} (hr : fn.results = #[.cell p T, .cell q U]) (hp : lk S p = some (.pointer (some ⟨g, 0, none⟩))) (hq : lk S q = some (.pointer (some ⟨h, 0, none⟩)))
    (ht : P.underlying T = some D) (hD : aggD D = true) (hs : sizeP P T = some m) (hm : us.length = m) (hb : Blk w g T us) (hu : P.underlying U = some E) (hE : aggD E = false) (hb2 : Blk w h t2 [x]) (hK : w.heap[d]? = some (.deferred (some []))) (hφ : Φ (.tuple #[.agg us.toArray, x]) (w.putObj d (.deferred none))) :
    ∀ a, FrD [{ target := .collected d, args := #[] }] n S a → bodyPostM Fence.wide k P fn (fun e w' => ∃ v, e = .returned v ∧ Φ v w') .ret a w := by
  intro a ha
  have hp' : a.tmps.getD p undef = .pointer (some ⟨g, 0, none⟩) := by have := ha.1.eval (x := .tmp p) hp; simpa [Act.eval, Array.getD_eq_getD_getElem?] using this
  have hq' : a.tmps.getD q undef = .pointer (some ⟨h, 0, none⟩) := by have := ha.1.eval (x := .tmp q) hq; simpa [Act.eval, Array.getD_eq_getD_getElem?] using this
  have n1 : ∀ {e : Nat} {t : TypeId} {cs : List Value}, Blk w e t cs → Blk (w.putObj d (.deferred none)) e t cs := fun {e t cs} hb => by
    have hne : e ≠ d := fun x => by subst x; unfold Blk at hb; rw [hK] at hb; cases hb
    exact (World.putObj_heap_other hne).trans hb
  show LeavesInM Fence.wide k P fn a.tmps _ a.defers .returning w
  rw [ha.2]
  exact ⟨by simp, .inl ⟨_, _, rfl, run_takeDeferred hK, ⟨_, results_cells2 hr hp' hq' ht hD hs hm (n1 hb) hu hE (n1 hb2), _, rfl, hφ⟩⟩⟩
end
end Go.Proofs.YtgjnchjkjdnidaaGreat

/- Walks (SI). Written by program. -/
namespace Go.Proofs.YtgjnchjkjdnidaaGreat
open Go.RowKit
set_option maxRecDepth 100000 in
set_option maxHeartbeats 2000000 in
theorem eqsOf_ret (n : Nat) (u : Value) (P sL : List Nat) (w : World) (hl : RdL w 1 encZ u P) (hP : P.length ≤ 4) (hn : n ≤ 63) (hp : ∀ a ∈ P, a < n) (hs : sL.length = 4) :
    Ret Tryz.prog 69 [.int .i64 (n : Int), u, .agg (encs4 sL).toArray] w (fun v w' => v = .agg (mc (eqM n P sL)).toArray ∧ Ex w w') := by
  obtain ⟨s0, s1, s2, s3, rfl⟩ : ∃ a b c d, sL = [a, b, c, d] := by match sL, hs with | [a, b, c, d], _ => exact ⟨a, b, c, d, rfl⟩
  obtain ⟨sL, hsL⟩ : ∃ l : List Nat, l = [s0, s1, s2, s3] := ⟨_, rfl⟩
  have hs4 : sL.length = 4 := by rw [hsL]; rfl
  rw [← hsL]
  have hB0 : Ex w w := Ex.rfl_ _
  refine Ret.of Tryz.func69 rfl Tryz.ntmps69 rfl ?_
  refine CW.seq ?_
  refine CW.region ?_
  refine RG.box rfl rfl rfl rfl rfl (fun gS w1 egS hx1 hb1 => ?_)
  have hle2 : w.heap.size ≤ gS := by have := (Ex.rfl_ w).size; omega
  have hE3 := hx1
  refine RG.alloc_ rfl rfl rfl rfl inf_135 (fun gR w4 egR hx4 hb4 => ?_)
  have hle5 : w.heap.size ≤ gR := by have := hE3.size; omega
  have hle6 : w1.heap.size ≤ gR := by have := (Ex.rfl_ w1).size; omega
  have hlt7 : gS < gR := by have := Blk.lt hb1; omega
  replace hE3 := Ex.tr hE3 hx4
  have hE8 := hx4
  refine RG.done ?_
  refine QW.then_ ?_
  refine CW.seq ?_
  refine CW.region ?_
  refine RG.alloc_ rfl rfl rfl rfl inf_135 (fun gE w9 egE hx9 hb9 => ?_)
  have hle10 : w.heap.size ≤ gE := by have := hE3.size; omega
  have hle11 : w1.heap.size ≤ gE := by have := hE8.size; omega
  have hle12 : w4.heap.size ≤ gE := by have := (Ex.rfl_ w4).size; omega
  have hlt13 : gS < gE := by have := Blk.lt (hb1.ext hE8); omega
  have hlt14 : gR < gE := by have := Blk.lt hb4; omega
  replace hE3 := Ex.tr hE3 hx9
  replace hE8 := Ex.tr hE8 hx9
  have hE15 := hx9
  refine RG.done ?_
  refine QW.then_ ?_
  refine CW.seq ?_
  refine CW.seq ?_
  refine CW.region ?_
  refine RG.vl rfl rfl rfl (Ev.move rfl rfl) ?_
  refine RG.done ?_
  refine QW.then_ ?_
  refine CW.block ?_
  refine CW.loop1 [(0, _), (1, _), (5, _), (6, _), (7, _)] ⟨rfl, rfl, rfl, rfl, rfl, trivial⟩ (fun (row : Nat) => [(11, .int .i64 (row : Int))]) (fun row w' => (row ≤ 4 ∧ Blk w' gE 135 (mc (stO n P sL row)) ∧ Blk w' gS 128 (encs4 sL) ∧ Blk w' gR 135 (mc fun _ _ => 0)) ∧ Ex w w') (fun row => 4 - row) (0) ⟨rfl, trivial⟩ ⟨⟨by omega, by rw [stO_zero, ← mc_zero]; exact hb9, (hb1.ext hE8), (hb4.ext hE15)⟩, (Ex.tr hB0 hE3)⟩ ?_
  rintro row wl16 ⟨⟨hrow, hbE, hbS, hbR⟩, hxwl16⟩
  refine CW.sub (S' := [(11, _), (0, _), (1, _), (5, _), (6, _), (7, _)]) ⟨rfl, rfl, rfl, rfl, rfl, rfl, trivial⟩ ?_
  refine CW.seq ?_
  refine CW.region ?_
  refine RG.vl rfl rfl rfl (Ev.lss rfl rfl rfl) ?_
  refine RG.done ?_
  refine QW.then_ ?_
  refine CW.seq ?_
  refine CW.condP rfl (fun hc17 => ?_) (fun hc17 => ?_)
  · refine CW.skip ?_
    refine QW.then_ ?_
    refine CW.seq ?_
    refine CW.block ?_
    refine CW.seq ?_
    refine CW.region ?_
    refine RG.vl rfl rfl rfl (Ev.move rfl rfl) ?_
    refine RG.vl rfl rfl rfl (Ev.assign rfl rfl) ?_
    refine RG.done ?_
    refine QW.then_ ?_
    refine CW.seq ?_
    refine CW.seq ?_
    refine CW.region ?_
    refine RG.vl rfl rfl rfl (Ev.move rfl rfl) ?_
    refine RG.vl rfl rfl rfl (Ev.lenL rfl rfl rfl Tryz.underlying29 ((hl.ext hxwl16))) ?_
    refine RG.vl rfl rfl rfl (Ev.move rfl rfl) ?_
    refine RG.done ?_
    refine QW.then_ ?_
    refine CW.block ?_
    refine CW.loop1 [(0, _), (1, _), (5, _), (6, _), (7, _), (8, _), (11, _), (14, _), (15, _)] ⟨rfl, rfl, rfl, rfl, rfl, rfl, rfl, rfl, rfl, trivial⟩ (fun (j : Nat) => [(16, .int .i64 (j : Int))]) (fun j w' => (j ≤ P.length ∧ Blk w' gE 135 (mc (stI n P sL row j)) ∧ Blk w' gS 128 (encs4 sL) ∧ Blk w' gR 135 (mc fun _ _ => 0)) ∧ Ex w w') (fun j => P.length - j) (0) ⟨rfl, trivial⟩ ⟨⟨Nat.zero_le _, by rw [stI_zero]; exact hbE, hbS, hbR⟩, (Ex.tr hB0 hxwl16)⟩ ?_
    rintro j wl18 ⟨⟨hj, hbE, hbS, hbR⟩, hxwl18⟩
    refine CW.sub (S' := [(16, _), (0, _), (1, _), (5, _), (6, _), (7, _), (8, _), (11, _), (14, _), (15, _)]) ⟨rfl, rfl, rfl, rfl, rfl, rfl, rfl, rfl, rfl, rfl, trivial⟩ ?_
    refine CW.seq ?_
    refine CW.region ?_
    refine RG.vl rfl rfl rfl (Ev.lss rfl rfl rfl) ?_
    refine RG.done ?_
    refine QW.then_ ?_
    refine CW.seq ?_
    refine CW.condP rfl (fun hc19 => ?_) (fun hc19 => ?_)
    · refine CW.skip ?_
      refine QW.then_ ?_
      refine CW.seq ?_
      refine CW.block ?_
      refine CW.seq ?_
      obtain ⟨a, hpl⟩ : ∃ a, P[j]? = some a := ⟨_, List.getElem?_eq_getElem (by omega)⟩
      refine CW.region ?_
      refine RG.vl rfl rfl rfl (Ev.move rfl rfl) ?_
      refine RG.idxL rfl rfl rfl rfl rfl rfl Tryz.underlying29 sz_3 ((hl.ext hxwl18)) (hpl) (fun p20 hp20b hp20 => ?_)
      refine RG.vl rfl rfl rfl (Ev.ld0 rfl rfl Tryz.underlying3 rfl (hp20) (rfl)) ?_
      refine RG.vl rfl rfl rfl (Ev.assign rfl rfl) ?_
      refine RG.vl rfl rfl rfl (Ev.assign rfl rfl) ?_
      refine RG.done ?_
      refine QW.then_ ?_
      have han := hp a (List.mem_of_getElem? hpl)
      obtain ⟨m, hm⟩ : ∃ m, m = n - 1 - a := ⟨_, rfl⟩
      have hmul : (row + 1) * m ≤ 4 * 62 := Nat.mul_le_mul (by omega) (by omega)
      refine CW.draw [15] (.ex) 16 rfl mixed (fun wd21 hxwd21 => ?_)
      replace hxwl18 := Ex.tr hxwl18 hxwd21
      have hE22 := hxwd21
      refine AG.takeW 0 rfl (by kernel_rfl) (by kernel_rfl) rfl rfl rfl (fun _ => Ev.move rfl rfl) ?_
      refine AG.takeW 1 rfl (by kernel_rfl) (by kernel_rfl) rfl rfl rfl (fun _ => Ev.move rfl rfl) ?_
      refine AG.takeW 2 rfl (by kernel_rfl) (by kernel_rfl) rfl rfl rfl (fun _ => Ev.move rfl rfl) ?_
      refine AG.takeW 3 rfl (by kernel_rfl) (by kernel_rfl) rfl rfl rfl (fun _ => (Ev.addI rfl rfl rfl (by omega)).conv (congrArg (Value.int .i64) (show (row : Int) + 1 = ((row + 1 : Nat) : Int) by omega))) ?_
      refine AG.takeW 4 rfl (by kernel_rfl) (by kernel_rfl) rfl rfl rfl (fun _ => Ev.move rfl rfl) ?_
      refine AG.takeW 5 rfl (by kernel_rfl) (by kernel_rfl) rfl rfl rfl (fun _ => Ev.subI rfl rfl rfl (by omega)) ?_
      refine AG.takeW 6 rfl (by kernel_rfl) (by kernel_rfl) rfl rfl rfl (fun _ => Ev.move rfl rfl) ?_
      refine AG.takeW 7 rfl (by kernel_rfl) (by kernel_rfl) rfl rfl rfl (fun _ => (Ev.subI rfl rfl rfl (by omega)).conv (congrArg (Value.int .i64) (show _ = (m : Int) by omega))) ?_
      refine AG.takeW 8 rfl (by kernel_rfl) (by kernel_rfl) rfl rfl rfl (fun _ => (Ev.mulI rfl rfl rfl (by rw [← Int.natCast_mul]; omega)).conv (congrArg (Value.int .i64) (Int.natCast_mul (row + 1) m).symm)) ?_
      refine AG.takeW 13 rfl (by kernel_rfl) (by kernel_rfl) rfl rfl rfl (fun _ => Ev.idxA rfl rfl rfl Tryz.underlying135 sz_133 (by omega)) ?_
      refine AG.only 9 rfl (by kernel_rfl) ?_
      refine RG.call rfl rfl rfl rfl rfl rfl rfl en_112 (Pow_el _ ((row + 1) * m)) ?_
      rintro _ w24 ⟨rfl, hx24⟩
      replace hxwl18 := Ex.tr hxwl18 hx24
      replace hE22 := Ex.tr hE22 hx24
      have hE25 := hx24
      refine RG.done ?_
      refine QW.an (fun _ => hE25) ?_
      refine AG.takeW 10 rfl (by kernel_rfl) (by kernel_rfl) rfl rfl rfl (fun _ => Ev.move rfl rfl) ?_
      refine AG.takeW 11 rfl (by kernel_rfl) (by kernel_rfl) rfl rfl rfl (fun _ => Ev.extract rfl rfl rfl) ?_
      refine AG.takeW 12 rfl (by kernel_rfl) (by kernel_rfl) rfl rfl rfl (fun _ => Ev.extract rfl rfl rfl) ?_
      refine AG.takeW 14 rfl (by kernel_rfl) (by kernel_rfl) rfl rfl rfl (fun _ => Ev.idxA rfl rfl rfl Tryz.underlying133 sz_5 (by omega)) ?_
      refine AG.only 15 rfl (by kernel_rfl) ?_
      refine RG.st2 (g := gE) rfl rfl rfl rfl rfl sz_5 rfl (hbE.ext hE22) (by rw [mc_len, Nat.blt_eq]; omega) (fun ws27 hwws27 hbws27 => ?_)
      replace hbS := Blk.far (hbS.ext hE22) hwws27 (by omega)
      replace hbR := Blk.far (hbR.ext hE22) hwws27 (by omega)
      replace hxwl18 := Wr.below hxwl18 hwws27 hle10
      rw [mc_set _ _ (by omega), hm, stI_more hP hpl] at hbws27
      refine RG.done ?_
      refine QW.an (fun h => by simp at h) ?_
      refine AG.done (by kernel_rfl) ?_
      refine QW.sub (S' := [(0, _), (1, _), (5, _), (6, _), (7, _), (8, _), (11, _), (14, _), (15, _), (16, _)]) ⟨rfl, rfl, rfl, rfl, rfl, rfl, rfl, rfl, rfl, rfl, trivial⟩ ?_
      refine QW.blockN ?_
      refine QW.then_ ?_
      refine CW.region ?_
      refine RG.vl rfl rfl rfl (Ev.addI rfl rfl rfl (by omega)) ?_
      refine RG.vl rfl rfl rfl (Ev.move rfl rfl) ?_
      refine RG.done ?_
      refine QW.round1 (j + 1) ⟨rfl, trivial⟩ ⟨rfl, rfl, rfl, rfl, rfl, rfl, rfl, rfl, rfl, trivial⟩ ⟨⟨by omega, hbws27, hbS, hbR⟩, (Ex.tr hB0 hxwl18)⟩ (by omega)
    · refine CW.exit ?_
      refine QW.thenExit ?_
      refine QW.thenExit ?_
      refine QW.blockHit ?_
      refine QW.then_ ?_
      obtain rfl : j = P.length := by omega
      refine CW.draw [6] (.ex) 7 rfl mixed (fun wd28 hxwd28 => ?_)
      replace hxwl18 := Ex.tr hxwl18 hxwd28
      have hE29 := hxwd28
      refine AG.takeW 0 rfl (by kernel_rfl) (by kernel_rfl) rfl rfl rfl (fun _ => Ev.move rfl rfl) ?_
      refine AG.takeW 1 rfl (by kernel_rfl) (by kernel_rfl) rfl rfl rfl (fun _ => Ev.move rfl rfl) ?_
      refine AG.takeW 2 rfl (by kernel_rfl) (by kernel_rfl) rfl rfl rfl (fun _ => Ev.idxA rfl rfl rfl Tryz.underlying128 sz_5 (by omega)) ?_
      refine AG.take 3 rfl (by kernel_rfl) (by kernel_rfl) rfl rfl rfl (fun wq hq => Ev.ldAt rfl rfl Tryz.underlying5 rfl (((hbS.ext hE29).ext hq).cells) ((show (encs4 sL)[row * 1]? = some (.int .u8 (cf sL row : Int)) by rw [List.getElem?_map, Nat.mul_one, getElem?_cf (by omega)]; rfl))) ?_
      refine AG.takeW 4 rfl (by kernel_rfl) (by kernel_rfl) rfl rfl rfl (fun _ => Ev.idxA rfl rfl rfl Tryz.underlying135 sz_133 (by omega)) ?_
      refine AG.takeW 5 rfl (by kernel_rfl) (by kernel_rfl) rfl rfl rfl (fun _ => Ev.idxA (i := 4) rfl rfl rfl Tryz.underlying133 sz_5 (by omega)) ?_
      refine AG.only 6 rfl (by kernel_rfl) ?_
      refine RG.st2 (g := gE) rfl rfl rfl rfl rfl sz_5 rfl (hbE.ext hE29) (by rw [mc_len, Nat.blt_eq]; omega) (fun ws31 hwws31 hbws31 => ?_)
      replace hbS := Blk.far (hbS.ext hE29) hwws31 (by omega)
      replace hbR := Blk.far (hbR.ext hE29) hwws31 (by omega)
      replace hxwl18 := Wr.below hxwl18 hwws31 hle10
      replace hbws31 : Blk ws31 gE 135 ((mc _).set (row * 5 + 4 * 1) _) := hbws31
      rw [mc_set _ _ (by omega), stI_end] at hbws31
      refine RG.done ?_
      refine QW.an (fun h => by simp at h) ?_
      refine AG.done (by kernel_rfl) ?_
      refine QW.blockN ?_
      refine QW.then_ ?_
      refine CW.region ?_
      refine RG.vl rfl rfl rfl (Ev.addI rfl rfl rfl (by omega)) ?_
      refine RG.vl rfl rfl rfl (Ev.move rfl rfl) ?_
      refine RG.done ?_
      refine QW.round1 (row + 1) ⟨rfl, trivial⟩ ⟨rfl, rfl, rfl, rfl, rfl, trivial⟩ ⟨⟨by omega, hbws31, hbS, hbR⟩, (Ex.tr hB0 hxwl18)⟩ (by omega)
  · refine CW.exit ?_
    refine QW.thenExit ?_
    refine QW.thenExit ?_
    refine QW.blockHit ?_
    refine QW.then_ ?_
    refine CW.seq ?_
    obtain rfl : row = 4 := by omega
    rw [stO_end] at hbE
    refine CW.region ?_
    refine RG.vl rfl rfl rfl (Ev.ldAgg rfl rfl Tryz.underlying135 rfl sz_135 rfl (hbE.cells)) ?_
    refine RG.stAll (g := gR) rfl rfl rfl rfl rfl sz_135 rfl rfl rfl hbR (fun ws32 hwws32 hbws32 => ?_)
    replace hbE := Blk.far hbE hwws32 (by omega)
    replace hbS := Blk.far hbS hwws32 (by omega)
    replace hxwl16 := Wr.below hxwl16 hwws32 hle5
    refine RG.done ?_
    refine QW.then_ ?_
    refine CW.ret ?_
    refine QW.retC rfl rfl Tryz.underlying135 rfl sz_135 rfl hbws32 ?_
    have hB := (Ex.tr hB0 hxwl16)
    exact ⟨rfl, hB⟩

set_option maxRecDepth 100000 in
set_option maxHeartbeats 1000000 in
theorem cand_ret (n : Nat) (A : Option Addr) (m c : Nat) (cs : List Value) (w : World)  :
    Ret Tryz.prog 68 [.int .i64 (n : Int), .slice A m c, .agg cs.toArray] w (fun v w' => (∃ gN gE gG, v = .func (.func 110) #[] #[.pointer (some ⟨gE, 0, none⟩), .pointer (some ⟨gN, 0, none⟩), .pointer (some ⟨gG, 0, none⟩)] ∧ Blk w' gN 3 [.int .i64 (n : Int)] ∧ Blk w' gE 29 [.slice A m c] ∧ Blk w' gG 127 cs) ∧ Ex w w') := by
  have hB0 : Ex w w := Ex.rfl_ _
  refine Ret.of Tryz.func68 rfl Tryz.ntmps68 rfl ?_
  refine CW.seq ?_
  refine CW.region ?_
  refine RG.box rfl rfl rfl rfl rfl (fun gN w1 egN hx1 hb1 => ?_)
  have hle2 : w.heap.size ≤ gN := by have := (Ex.rfl_ w).size; omega
  have hE3 := hx1
  refine RG.box rfl rfl rfl rfl rfl (fun gE w4 egE hx4 hb4 => ?_)
  have hle5 : w.heap.size ≤ gE := by have := hE3.size; omega
  have hle6 : w1.heap.size ≤ gE := by have := (Ex.rfl_ w1).size; omega
  have hlt7 : gN < gE := by have := Blk.lt hb1; omega
  replace hE3 := Ex.tr hE3 hx4
  have hE8 := hx4
  refine RG.box rfl rfl rfl rfl rfl (fun gG w9 egG hx9 hb9 => ?_)
  have hle10 : w.heap.size ≤ gG := by have := hE3.size; omega
  have hle11 : w1.heap.size ≤ gG := by have := hE8.size; omega
  have hle12 : w4.heap.size ≤ gG := by have := (Ex.rfl_ w4).size; omega
  have hlt13 : gN < gG := by have := Blk.lt (hb1.ext hE8); omega
  have hlt14 : gE < gG := by have := Blk.lt hb4; omega
  replace hE3 := Ex.tr hE3 hx9
  replace hE8 := Ex.tr hE8 hx9
  have hE15 := hx9
  refine RG.vl rfl rfl rfl (Ev.assign rfl rfl) ?_
  refine RG.done ?_
  refine QW.then_ ?_
  refine CW.seq ?_
  refine CW.region ?_
  refine RG.vl rfl rfl rfl (Ev.mkFn rfl rfl rfl rfl rfl) ?_
  refine RG.vl rfl rfl rfl (Ev.assign rfl rfl) ?_
  refine RG.done ?_
  refine QW.then_ ?_
  refine CW.ret ?_
  refine QW.ret1 rfl rfl ?_
  have hB := (Ex.tr hB0 hE3)
  exact ⟨⟨gN, gE, gG, rfl, (hb1.ext hE8), (hb4.ext hE15), hb9⟩, hB⟩

end Go.Proofs.YtgjnchjkjdnidaaGreat

