/- Walks (EJ). Written by program. -/
import Derived.Test.YtnhkhpnkhkagaaaDoorT
import Derived.Test.YtnhkhpnkhkagaaaDoorEI
namespace Go.Proofs.YtnhkhpnkhkagaaaDoor
open Go.RowKit
abbrev encStr (b : ByteArray) : List Value := [.string b]
theorem encStr_len (b : ByteArray) : (encStr b).length = 1 := rfl
def smallT : List ByteArray := [⟨#[]⟩, ⟨#[48, 48, 48, 48, 48, 48, 48, 48, 48, 48, 48, 48, 48, 48, 48, 48, 48, 48, 48, 48, 48, 48, 48, 48, 48, 48, 48, 48, 48, 49]⟩, ⟨#[48, 48, 48, 48, 48, 48, 48, 48, 48, 48, 48, 48, 48, 48, 48, 48, 48, 48, 48, 48, 48, 48, 48, 48, 48, 48, 48, 48, 48, 48, 49]⟩, ⟨#[57, 57, 57, 57, 57, 57, 57, 57, 57, 57, 57, 57, 57, 57, 57, 57, 57, 57, 57, 57, 57, 57, 57, 57, 57, 57, 57, 57, 57, 57, 56]⟩, ⟨#[63, 57, 57, 57, 57, 57, 57, 57, 57, 57, 57, 57, 57, 57, 57, 57, 57, 57, 57, 57, 57, 57, 57, 57, 57, 57, 57, 57, 57, 57, 57, 56]⟩, ⟨#[63, 57, 57, 57, 57, 57, 57, 57, 57, 57, 57, 57, 57, 57, 57, 57, 57, 57, 57, 57, 57, 57, 57, 57, 57, 57, 57, 57, 57, 57, 56]⟩, ⟨#[49, 88]⟩, ⟨#[88]⟩, ⟨#[63, 63]⟩, ⟨#[63]⟩, ⟨#[49, 32]⟩, ⟨#[97, 49]⟩, ⟨#[49, 47]⟩, ⟨#[49, 58]⟩]
theorem smallT_sz : ∀ b ∈ smallT, b.size ≤ 200 := by decide
theorem x12 {b : ByteArray} {i : Nat} : (b.extract i (i + 1)).size ≤ 1 := by rw [ByteArray.size_extract]; omega
theorem x2 {a b : ByteArray} {m n : Nat} (h1 : a.size ≤ m) (h2 : b.size ≤ n) : (a ++ b).size ≤ m + n := by rw [ByteArray.size_append]; omega
theorem textsB_ret (k : Nat) (wv : Value) (ws : List Int) (b : ByteArray) (w : World) (hws : RdL w 1 encI wv ws) (hwl : ws.length ≤ 1000) (hb : b.size ≤ 200) :
    Ret Tryd.prog 24 [.agg #[.int .u8 (k : Int), wv], .string b] w (fun v w' => v = .bool true ∧ Ex w w') := by
  obtain ⟨⟨t⟩⟩ := b
  exact texts_ret k wv ws t w hws hwl hb

set_option maxRecDepth 100000 in
set_option maxHeartbeats 16000000 in
theorem digitSmall_ret  (w : World)  :
    Ret Tryd.prog 6 [] w (fun v w' => v = .bool true ∧ Ex w w') := by
  have hB0 : Ex w w := Ex.rfl_ _
  refine Ret.of Tryd.func6 rfl Tryd.ntmps6 rfl ?_
  refine CW.seq ?_
  refine CW.region ?_
  refine RG.vl rfl rfl rfl (Ev.assign rfl rfl) ?_
  refine RG.done ?_
  refine QW.then_ ?_
  refine CW.seq ?_
  refine CW.seq ?_
  refine CW.region ?_
  refine RG.vl rfl rfl rfl (Ev.assign rfl rfl) ?_
  refine RG.done ?_
  refine QW.then_ ?_
  refine CW.block ?_
  refine CW.loop1 [] trivial (fun (k : Nat) => [(1, .int .i64 (k : Int))]) (fun k w' => (k ≤ 6) ∧ Ex w w') (fun k => 6 - k) (0) ⟨rfl, trivial⟩ ⟨by omega, hB0⟩ ?_
  rintro k wl1 ⟨hk, hxwl1⟩
  refine CW.sub (S' := [(1, _)]) ⟨rfl, trivial⟩ ?_
  refine CW.seq ?_
  refine CW.seq ?_
  refine CW.region ?_
  refine RG.vl rfl rfl rfl (Ev.move rfl rfl) ?_
  refine RG.vl rfl rfl rfl (Ev.lss rfl rfl rfl) ?_
  refine RG.done ?_
  refine QW.then_ ?_
  refine CW.condP rfl (fun hc2 => ?_) (fun hc2 => ?_)
  · refine CW.skip ?_
    refine QW.then_ ?_
    refine CW.seq ?_
    refine CW.block ?_
    refine CW.seq ?_
    refine CW.region ?_
    refine RG.vl rfl rfl rfl (Ev.assign rfl rfl) ?_
    refine RG.done ?_
    refine QW.then_ ?_
    refine CW.block ?_
    have hR3 := (Ex.tr hB0 hxwl1)
    refine CW.loop1 [(1, _)] ⟨rfl, trivial⟩ (fun (x : Int) => [(2, .int .i64 x)]) (fun x w' => (-1 ≤ x ∧ x ≤ 13) ∧ Ex wl1 w') (fun x => (13 - x).toNat) (-1) ⟨rfl, trivial⟩ ⟨⟨by decide, by decide⟩, (Ex.rfl_ _)⟩ ?_
    rintro x wl4 ⟨⟨hx1, hx2⟩, hxwl4⟩
    refine CW.sub (S' := [(2, _), (1, _)]) ⟨rfl, rfl, trivial⟩ ?_
    refine CW.seq ?_
    refine CW.seq ?_
    refine CW.region ?_
    refine RG.vl rfl rfl rfl (Ev.move rfl rfl) ?_
    refine RG.vl rfl rfl rfl (Ev.lss rfl rfl rfl) ?_
    refine RG.done ?_
    refine QW.then_ ?_
    refine CW.condP rfl (fun hc5 => ?_) (fun hc5 => ?_)
    · refine CW.skip ?_
      refine QW.then_ ?_
      refine CW.seq ?_
      refine CW.block ?_
      refine CW.seq ?_
      refine CW.region ?_
      refine RG.vl rfl rfl rfl (Ev.move rfl rfl) ?_
      refine RG.vl rfl rfl rfl (Ev.to8 rfl rfl Tryd.underlying3 Tryd.underlying5 (by omega)) ?_
      refine RG.vl rfl rfl rfl (Ev.move rfl rfl) ?_
      refine RG.litO (os := [.tmp 22]) (enc := encI) ([x]) rfl rfl rfl rfl rfl rfl rfl Tryd.underlying22 inf_3 rfl rfl rfl rfl rfl encI_len rfl rfl (fun vx wk6 hxwk6 hown7 hnew8 => ?_)
      replace hxwl4 := Ex.tr hxwl4 hxwk6
      have hE9 := hxwk6
      obtain ⟨Avx, Cvx, rfl⟩ := hown7.shape
      refine RG.vl rfl rfl rfl (Ev.build1 rfl rfl rfl inf_24 rfl rfl (by kernel_rfl) rfl) ?_
      refine RG.local_ rfl rfl rfl rfl (fun _ => rfl) rfl rfl (fun _ => rfl) inf_24 rfl rfl rfl (fun g10 w10 eg10 hx10 hb10 => ?_)
      have hsb11 := fun e => sep_new (g := g10) hown7 eg10 e
      have hle12 : wl1.heap.size ≤ g10 := by have := hxwl4.size; omega
      have hle13 : wl4.heap.size ≤ g10 := by have := hE9.size; omega
      have hle14 : wk6.heap.size ≤ g10 := by have := (Ex.rfl_ wk6).size; omega
      replace hxwl4 := Ex.tr hxwl4 hx10
      replace hE9 := Ex.tr hE9 hx10
      have hE15 := hx10
      refine RG.done ?_
      refine QW.then_ ?_
      refine CW.seq ?_
      refine CW.seq ?_
      refine CW.region ?_
      refine RG.vl rfl rfl rfl (Ev.move rfl rfl) ?_
      refine RG.vl rfl rfl rfl (Ev.lss rfl rfl rfl) ?_
      refine RG.done ?_
      refine QW.then_ ?_
      refine CW.condP rfl (fun hc16 => ?_) (fun hc16 => ?_)
      · refine CW.region ?_
        refine RG.vl rfl rfl rfl (Ev.fld rfl rfl fld_24_1) ?_
        refine RG.st (g := g10) (k := 1) rfl rfl rfl rfl rfl sz_22 rfl hb10 rfl (fun ws17 hwws17 hbws17 => ?_)
        replace hxwl4 := Wr.below hxwl4 hwws17 hle12
        replace hE9 := Wr.below hE9 hwws17 hle13
        replace hE15 := Wr.below hE15 hwws17 hle14
        refine RG.done ?_
        refine QW.then_ ?_
        refine CW.seq ?_
        refine CW.seq ?_
        refine CW.region ?_
        refine RG.vl rfl rfl rfl (Ev.move rfl rfl) ?_
        refine RG.vl rfl rfl rfl (Ev.eqI rfl rfl rfl) ?_
        refine RG.done ?_
        refine QW.then_ ?_
        refine CW.condP rfl (fun hc18 => ?_) (fun hc18 => ?_)
        · omega
        · refine CW.skip ?_
          refine QW.then_ ?_
          refine CW.seq ?_
          refine CW.seq ?_
          obtain ⟨ws, hws, hwl⟩ : ∃ ws : List Int, RdL ws17 1 encI (.slice none 0 0) ws ∧ ws.length ≤ 2 := ⟨_, (RdL.nil_ _), by first | exact (by decide) | exact (Nat.le_of_ble_eq_true rfl)⟩
          refine CW.draw [] (.ex) 8 rfl mixed (fun wd19 hxwd19 => ?_)
          replace hxwl4 := Ex.tr hxwl4 hxwd19
          replace hE9 := Ex.tr hE9 hxwd19
          replace hE15 := Ex.tr hE15 hxwd19
          have hE20 := hxwd19
          refine AG.take 0 rfl (by kernel_rfl) (by kernel_rfl) rfl rfl rfl (fun wq hq => Ev.ldAgg rfl rfl Tryd.underlying24 rfl sz_24 rfl (((hbws17.ext hE20).ext hq).cells)) ?_
          refine AG.takeW 2 rfl (by kernel_rfl) (by kernel_rfl) rfl rfl rfl (fun _ => Ev.fld rfl rfl fld_24_0) ?_
          refine AG.take 3 rfl (by kernel_rfl) (by kernel_rfl) rfl rfl rfl (fun wq hq => Ev.ldAt rfl rfl Tryd.underlying5 rfl (((hbws17.ext hE20).ext hq).cells) (rfl)) ?_
          refine AG.takeW 4 rfl (by kernel_rfl) (by kernel_rfl) rfl rfl rfl (fun _ => Ev.fld rfl rfl fld_24_1) ?_
          refine AG.take 5 rfl (by kernel_rfl) (by kernel_rfl) rfl rfl rfl (fun wq hq => Ev.ldAt rfl rfl Tryd.underlying22 rfl (((hbws17.ext hE20).ext hq).cells) (rfl)) ?_
          refine AG.only 1 rfl (by kernel_rfl) ?_
          refine RG.call rfl rfl rfl rfl rfl rfl rfl en_22 (right_ret k _ ws _ (hws.ext hE20) (by omega)) ?_
          rintro _ w22 ⟨rfl, hx22⟩
          replace hxwl4 := Ex.tr hxwl4 hx22
          replace hE9 := Ex.tr hE9 hx22
          replace hE15 := Ex.tr hE15 hx22
          replace hE20 := Ex.tr hE20 hx22
          have hE23 := hx22
          refine RG.done ?_
          refine QW.an (fun _ => hE23) ?_
          refine AG.only 6 rfl (by kernel_rfl) ?_
          refine RG.call rfl rfl rfl rfl rfl rfl rfl en_23 (rright_ret k _ ws _ (hws.ext hE20) (by omega)) ?_
          rintro _ w25 ⟨rfl, hx25⟩
          replace hxwl4 := Ex.tr hxwl4 hx25
          replace hE9 := Ex.tr hE9 hx25
          replace hE15 := Ex.tr hE15 hx25
          replace hE20 := Ex.tr hE20 hx25
          replace hE23 := Ex.tr hE23 hx25
          have hE26 := hx25
          refine RG.done ?_
          refine QW.an (fun _ => hE26) ?_
          refine AG.takeW 7 rfl (by kernel_rfl) (by kernel_rfl) rfl rfl rfl (fun _ => Ev.isF (Ev.neB rfl rfl rfl Tryd.underlying4) (fun h => h rfl)) ?_
          refine AG.done (by kernel_rfl) ?_
          refine QW.sub (S' := [(1, _), (2, _), (3, _), (39, _)]) ⟨rfl, rfl, rfl, rfl, trivial⟩ ?_
          refine QW.then_ ?_
          refine CW.condF rfl ?_
          refine CW.skip ?_
          refine QW.then_ ?_
          refine CW.seq ?_
          refine CW.seq ?_
          refine CW.region ?_
          refine RG.vl rfl rfl rfl (Ev.assign rfl rfl) ?_
          refine RG.done ?_
          refine QW.then_ ?_
          refine CW.block ?_
          replace hown7 := (Own.ext hown7 hE15)
          replace hbws17 := (hbws17.ext hE20)
          replace hws := (hws.ext hE20)
          have hR27 := (Ex.tr hR3 hxwl4)
          have hR28 := hxwl4
          have hR29 := hE9
          have hR30 := hE23
          have hR31 := hE26
          refine CW.loop1 [(1, _), (2, _), (3, _)] ⟨rfl, rfl, rfl, trivial⟩ (fun (n : Int) => [(4, .int .i64 n)]) (fun n w' => (-1 ≤ n ∧ n ≤ 5) ∧ Ex w25 w') (fun n => (5 - n).toNat) (-1) ⟨rfl, trivial⟩ ⟨⟨by decide, by decide⟩, (Ex.rfl_ _)⟩ ?_
          rintro n wl32 ⟨⟨hn1, hn2⟩, hxwl32⟩
          refine CW.sub (S' := [(4, _), (1, _), (2, _), (3, _)]) ⟨rfl, rfl, rfl, rfl, trivial⟩ ?_
          refine CW.seq ?_
          refine CW.seq ?_
          refine CW.region ?_
          refine RG.vl rfl rfl rfl (Ev.move rfl rfl) ?_
          refine RG.vl rfl rfl rfl (Ev.lss rfl rfl rfl) ?_
          refine RG.done ?_
          refine QW.then_ ?_
          refine CW.condP rfl (fun hc33 => ?_) (fun hc33 => ?_)
          · refine CW.skip ?_
            refine QW.then_ ?_
            refine CW.seq ?_
            refine CW.block ?_
            refine CW.seq ?_
            refine CW.region ?_
            refine RG.vl rfl rfl rfl (Ev.fld rfl rfl fld_24_0) ?_
            refine RG.vl rfl rfl rfl (Ev.ldAt rfl rfl Tryd.underlying5 rfl ((hbws17.ext hxwl32).cells) (rfl)) ?_
            refine RG.vl rfl rfl rfl (Ev.fld rfl rfl fld_24_1) ?_
            refine RG.vl rfl rfl rfl (Ev.ldAt rfl rfl Tryd.underlying22 rfl ((hbws17.ext hxwl32).cells) (rfl)) ?_
            refine RG.vl rfl rfl rfl (Ev.move rfl rfl) ?_
            refine RG.call rfl rfl rfl rfl rfl rfl rfl en_14 (rmisses_ret k _ ws _ _ (hws.ext hxwl32) (by omega)) ?_
            have hpre34 := (Ex.tr hR27 hxwl32)
            rintro _ w34 ⟨r34, rfl, hrm34, hx34⟩
            have hsb35 := fun e => sep_blk (hbws17.ext hxwl32) (Nat.le_refl _) hrm34 e
            have hsep36 : Sep r34 _ := Sep.of_new (Own.ext hown7 hxwl32) (fun k h => Own.ge hrm34 h)
            replace hxwl32 := Ex.tr hxwl32 hx34
            have hE37 := hx34
            refine RG.vl rfl rfl rfl (Ev.move rfl rfl) ?_
            refine RG.vl rfl rfl rfl (Ev.extract rfl rfl rfl) ?_
            refine RG.vl rfl rfl rfl (Ev.extract rfl rfl rfl) ?_
            refine RG.vl rfl rfl rfl (Ev.assign rfl rfl) ?_
            refine RG.vl rfl rfl rfl (Ev.assign rfl rfl) ?_
            refine RG.done ?_
            refine QW.then_ ?_
            refine CW.seq ?_
            refine CW.region ?_
            refine RG.vl rfl rfl rfl (Ev.ldAgg rfl rfl Tryd.underlying24 rfl sz_24 rfl ((hbws17.ext hxwl32).cells)) ?_
            refine RG.vl rfl rfl rfl (Ev.move rfl rfl) ?_
            refine RG.call rfl rfl rfl rfl rfl rfl rfl en_15 (Misses_ret k _ ws _ _ (hws.ext hxwl32) (by omega)) ?_
            have hpre38 := (Ex.tr hR27 hxwl32)
            rintro _ w38 ⟨r38, rfl, hdm38, hx38⟩
            have hsb39 := fun e => sep_blk (hbws17.ext hxwl32) (Nat.le_refl _) hdm38 e
            have hsep40 : Sep r38 _ := Sep.of_new (Own.ext hown7 hxwl32) (fun k h => Own.ge hdm38 h)
            have hsep41 : Sep r38 _ := Sep.of_new hrm34 (fun k h => Own.ge hdm38 h)
            replace hxwl32 := Ex.tr hxwl32 hx38
            replace hE37 := Ex.tr hE37 hx38
            have hE42 := hx38
            refine RG.vl rfl rfl rfl (Ev.move rfl rfl) ?_
            refine RG.vl rfl rfl rfl (Ev.extract rfl rfl rfl) ?_
            refine RG.vl rfl rfl rfl (Ev.extract rfl rfl rfl) ?_
            refine RG.vl rfl rfl rfl (Ev.assign rfl rfl) ?_
            refine RG.vl rfl rfl rfl (Ev.assign rfl rfl) ?_
            refine RG.done ?_
            refine QW.sub (S' := [(1, _), (2, _), (3, _), (4, _), (5, _), (6, _), (7, _), (8, _)]) ⟨rfl, rfl, rfl, rfl, rfl, rfl, rfl, rfl, trivial⟩ ?_
            refine QW.then_ ?_
            refine CW.seq ?_
            have hml := missR_len k ws n
            refine CW.region ?_
            refine RG.vl rfl rfl rfl (Ev.move rfl rfl) ?_
            refine RG.vl rfl rfl rfl (Ev.move rfl rfl) ?_
            refine RG.vl rfl rfl rfl (Ev.isF (Ev.neI rfl rfl rfl) (fun h => h rfl)) ?_
            refine RG.vl rfl rfl rfl (Ev.move rfl rfl) ?_
            refine RG.vl rfl rfl rfl (Ev.move rfl rfl) ?_
            refine RG.vl rfl rfl rfl (Ev.move rfl rfl) ?_
            refine RG.call rfl rfl rfl rfl rfl rfl rfl en_16 (listed_ret _ _ _ _ ((hdm38.rdl encM_len)) (((Own.ext hrm34 hE42).rdl encM_len)) (by omega)) ?_
            rintro _ w43 ⟨rfl, hx43⟩
            replace hxwl32 := Ex.tr hxwl32 hx43
            replace hE37 := Ex.tr hE37 hx43
            replace hE42 := Ex.tr hE42 hx43
            have hE44 := hx43
            refine RG.vl rfl rfl rfl (Ev.notF rfl rfl) ?_
            refine RG.vl rfl rfl rfl (Ev.pickF rfl rfl rfl) ?_
            refine RG.done ?_
            refine QW.then_ ?_
            refine CW.condF rfl ?_
            refine CW.skip ?_
            refine QW.blockN ?_
            refine QW.then_ ?_
            refine CW.region ?_
            refine RG.vl rfl rfl rfl (Ev.move rfl rfl) ?_
            refine RG.vl rfl rfl rfl (Ev.addI rfl rfl rfl (by omega)) ?_
            refine RG.vl rfl rfl rfl (Ev.assign rfl rfl) ?_
            refine RG.done ?_
            refine QW.round1 (n + 1) ⟨rfl, trivial⟩ ⟨rfl, rfl, rfl, trivial⟩ ⟨⟨by omega, by omega⟩, hxwl32⟩ (by omega)
          · refine CW.exit ?_
            refine QW.thenExit ?_
            refine QW.thenExit ?_
            refine QW.blockHit ?_
            refine QW.then_ ?_
            refine CW.seq ?_
            refine CW.seq ?_
            have hsl : smallT.length = 14 := rfl
            refine CW.region ?_
            refine RG.litO (os := [_, _, _, _, _, _, _, _, _, _, _, _, _, _]) (enc := encStr) (smallT) rfl rfl rfl rfl rfl rfl rfl Tryd.underlying50 inf_9 rfl rfl rfl rfl rfl encStr_len rfl rfl (fun vT wk45 hxwk45 hown46 hnew47 => ?_)
            have hsep48 : Sep vT _ := Sep.of_new (Own.ext hown7 hxwl32) hnew47
            have hsb49 := fun e => sep_blk (hbws17.ext hxwl32) (Nat.le_refl _) hown46 e
            replace hxwl32 := Ex.tr hxwl32 hxwk45
            have hE50 := hxwk45
            refine RG.vl rfl rfl rfl (Ev.lenL rfl rfl rfl Tryd.underlying50 ((hown46.rdl encStr_len))) ?_
            refine RG.vl rfl rfl rfl (Ev.move rfl rfl) ?_
            refine RG.done ?_
            refine QW.then_ ?_
            refine CW.block ?_
            replace hown7 := (Own.ext hown7 hxwl32)
            replace hbws17 := (hbws17.ext hxwl32)
            replace hws := (hws.ext hxwl32)
            have hR51 := (Ex.tr hR27 hxwl32)
            have hR52 := (Ex.tr hR28 hxwl32)
            have hR53 := (Ex.tr hR29 hxwl32)
            have hR54 := (Ex.tr hR30 hxwl32)
            have hR55 := (Ex.tr hR31 hxwl32)
            have hR56 := hxwl32
            have hR57 := hE50
            refine CW.loop1 [(1, _), (2, _), (3, _), (68, _), (69, _)] ⟨rfl, rfl, rfl, rfl, rfl, trivial⟩ (fun (j : Nat) => [(70, .int .i64 (j : Int))]) (fun j w' => (j ≤ smallT.length) ∧ Ex wk45 w') (fun j => smallT.length - j) (0) ⟨rfl, trivial⟩ ⟨by omega, (Ex.rfl_ _)⟩ ?_
            rintro j wl58 ⟨hj, hxwl58⟩
            refine CW.sub (S' := [(70, _), (1, _), (2, _), (3, _), (68, _), (69, _)]) ⟨rfl, rfl, rfl, rfl, rfl, rfl, trivial⟩ ?_
            refine CW.seq ?_
            refine CW.region ?_
            refine RG.vl rfl rfl rfl (Ev.lss rfl rfl rfl) ?_
            refine RG.done ?_
            refine QW.then_ ?_
            refine CW.seq ?_
            refine CW.condP rfl (fun hc59 => ?_) (fun hc59 => ?_)
            · refine CW.skip ?_
              refine QW.then_ ?_
              refine CW.seq ?_
              refine CW.block ?_
              refine CW.seq ?_
              obtain ⟨b, hb⟩ : ∃ b, smallT[j]? = some b := ⟨_, List.getElem?_eq_getElem (by omega)⟩
              have hbs := smallT_sz b (List.mem_of_getElem? hb)
              refine CW.region ?_
              refine RG.idxO rfl rfl rfl rfl rfl rfl Tryd.underlying50 sz_9 encStr_len ((Own.ext hown46 hxwl58)) (hb) (fun g61 hg61 hBg61 hp60b hp60 => ?_)
              refine RG.vl rfl rfl rfl (Ev.ld0 rfl rfl Tryd.underlying9 rfl (hp60) (rfl)) ?_
              refine RG.vl rfl rfl rfl (Ev.assign rfl rfl) ?_
              refine RG.done ?_
              refine QW.then_ ?_
              refine CW.seq ?_
              refine CW.region ?_
              refine RG.vl rfl rfl rfl (Ev.ldAgg rfl rfl Tryd.underlying24 rfl sz_24 rfl ((hbws17.ext hxwl58).cells)) ?_
              refine RG.vl rfl rfl rfl (Ev.move rfl rfl) ?_
              refine RG.call rfl rfl rfl rfl rfl rfl rfl en_24 (textsB_ret k _ ws _ _ (hws.ext hxwl58) (by omega) (hbs)) ?_
              rintro _ w62 ⟨rfl, hx62⟩
              replace hxwl58 := Ex.tr hxwl58 hx62
              have hE63 := hx62
              refine RG.vl rfl rfl rfl (Ev.notF rfl rfl) ?_
              refine RG.done ?_
              refine QW.then_ ?_
              refine CW.condF rfl ?_
              refine CW.skip ?_
              refine QW.blockN ?_
              refine QW.then_ ?_
              refine CW.region ?_
              refine RG.vl rfl rfl rfl (Ev.addI rfl rfl rfl (by omega)) ?_
              refine RG.vl rfl rfl rfl (Ev.move rfl rfl) ?_
              refine RG.done ?_
              refine QW.round1 (j + 1) ⟨rfl, trivial⟩ ⟨rfl, rfl, rfl, rfl, rfl, trivial⟩ ⟨by omega, hxwl58⟩ (by omega)
            · refine CW.exit ?_
              refine QW.thenExit ?_
              refine QW.thenExit ?_
              refine QW.blockHit ?_
              refine QW.then_ ?_
              refine CW.seq ?_
              refine CW.region ?_
              refine RG.vl rfl rfl rfl (Ev.assign rfl rfl) ?_
              refine RG.done ?_
              refine QW.then_ ?_
              refine CW.block ?_
              replace hown7 := (Own.ext hown7 hxwl58)
              replace hbws17 := (hbws17.ext hxwl58)
              replace hws := (hws.ext hxwl58)
              replace hown46 := (Own.ext hown46 hxwl58)
              have hR64 := (Ex.tr hR51 hxwl58)
              have hR65 := (Ex.tr hR52 hxwl58)
              have hR66 := (Ex.tr hR53 hxwl58)
              have hR67 := (Ex.tr hR54 hxwl58)
              have hR68 := (Ex.tr hR55 hxwl58)
              have hR69 := (Ex.tr hR56 hxwl58)
              have hR70 := (Ex.tr hR57 hxwl58)
              have hR71 := hxwl58
              refine CW.loop1 [(1, _), (2, _), (3, _)] ⟨rfl, rfl, rfl, trivial⟩ (fun (c : Nat) => [(11, .int .i64 (c : Int))]) (fun c w' => (c ≤ 144) ∧ Ex wl58 w') (fun c => 144 - c) (0) ⟨rfl, trivial⟩ ⟨by omega, (Ex.rfl_ _)⟩ ?_
              rintro c wl72 ⟨hc, hxwl72⟩
              refine CW.sub (S' := [(11, _), (1, _), (2, _), (3, _)]) ⟨rfl, rfl, rfl, rfl, trivial⟩ ?_
              refine CW.seq ?_
              refine CW.seq ?_
              refine CW.region ?_
              refine RG.vl rfl rfl rfl (Ev.move rfl rfl) ?_
              refine RG.vl rfl rfl rfl (Ev.lss rfl rfl rfl) ?_
              refine RG.done ?_
              refine QW.then_ ?_
              refine CW.condP rfl (fun hc73 => ?_) (fun hc73 => ?_)
              · refine CW.skip ?_
                refine QW.then_ ?_
                refine CW.seq ?_
                refine CW.block ?_
                refine CW.seq ?_
                refine CW.draw [] (.ex) 46 rfl mixed (fun wd74 hxwd74 => ?_)
                replace hxwl72 := Ex.tr hxwl72 hxwd74
                have hE75 := hxwd74
                refine AG.take 0 rfl (by kernel_rfl) (by kernel_rfl) rfl rfl rfl (fun wq hq => Ev.ldAgg rfl rfl Tryd.underlying24 rfl sz_24 rfl (((hbws17.ext hxwl72).ext hq).cells)) ?_
                refine AG.takeW 1 rfl (by kernel_rfl) (by kernel_rfl) rfl rfl rfl (fun _ => Ev.move rfl rfl) ?_
                refine AG.takeW 2 rfl (by kernel_rfl) (by kernel_rfl) rfl rfl rfl (fun _ => (Ev.quoI rfl rfl rfl (by omega)).conv (congrArg (Value.int .i64) (show (c : Int) / 12 = ((c / 12 : Nat) : Int) by omega))) ?_
                refine AG.takeW 3 rfl (by kernel_rfl) (by kernel_rfl) rfl rfl rfl (fun _ => Ev.move rfl rfl) ?_
                refine AG.takeW 4 rfl (by kernel_rfl) (by kernel_rfl) rfl rfl rfl (fun _ => (Ev.quoI rfl rfl rfl (by omega)).conv (congrArg (Value.int .i64) (show (c : Int) / 12 = ((c / 12 : Nat) : Int) by omega))) ?_
                refine AG.takeW 5 rfl (by kernel_rfl) (by kernel_rfl) rfl rfl rfl (fun _ => (Ev.addI rfl rfl rfl (by omega)).conv (congrArg (Value.int .i64) (show ((c / 12 : Nat) : Int) + 1 = ((c / 12 + 1 : Nat) : Int) by omega))) ?_
                refine AG.takeW 6 rfl (by kernel_rfl) (by kernel_rfl) rfl rfl rfl (fun _ => Ev.cutStr (i := c / 12) (j := c / 12 + 1) rfl rfl Tryd.underlying9 rfl rfl (by omega) (by show _ ≤ 12; omega)) ?_
                refine AG.takeW 7 rfl (by kernel_rfl) (by kernel_rfl) rfl rfl rfl (fun _ => Ev.move rfl rfl) ?_
                refine AG.takeW 8 rfl (by kernel_rfl) (by kernel_rfl) rfl rfl rfl (fun _ => (Ev.remI rfl rfl rfl (by omega)).conv (congrArg (Value.int .i64) (show (c : Int) % 12 = ((c % 12 : Nat) : Int) by omega))) ?_
                refine AG.takeW 9 rfl (by kernel_rfl) (by kernel_rfl) rfl rfl rfl (fun _ => Ev.move rfl rfl) ?_
                refine AG.takeW 10 rfl (by kernel_rfl) (by kernel_rfl) rfl rfl rfl (fun _ => (Ev.remI rfl rfl rfl (by omega)).conv (congrArg (Value.int .i64) (show (c : Int) % 12 = ((c % 12 : Nat) : Int) by omega))) ?_
                refine AG.takeW 11 rfl (by kernel_rfl) (by kernel_rfl) rfl rfl rfl (fun _ => (Ev.addI rfl rfl rfl (by omega)).conv (congrArg (Value.int .i64) (show ((c % 12 : Nat) : Int) + 1 = ((c % 12 + 1 : Nat) : Int) by omega))) ?_
                refine AG.takeW 12 rfl (by kernel_rfl) (by kernel_rfl) rfl rfl rfl (fun _ => Ev.cutStr (i := c % 12) (j := c % 12 + 1) rfl rfl Tryd.underlying9 rfl rfl (by omega) (by show _ ≤ 12; omega)) ?_
                refine AG.takeW 13 rfl (by kernel_rfl) (by kernel_rfl) rfl rfl rfl (fun _ => Ev.cat rfl rfl rfl (Nat.le_trans (Nat.add_le_add x12 x12) (by decide))) ?_
                refine AG.only 14 rfl (by kernel_rfl) ?_
                refine RG.call rfl rfl rfl rfl rfl rfl rfl en_24 (textsB_ret k _ ws _ _ (hws.ext hxwl72) (by omega) (Nat.le_trans (x2 x12 x12) (by decide))) ?_
                rintro _ w77 ⟨rfl, hx77⟩
                replace hxwl72 := Ex.tr hxwl72 hx77
                replace hE75 := Ex.tr hE75 hx77
                have hE78 := hx77
                refine RG.done ?_
                refine QW.an (fun _ => hE78) ?_
                refine AG.takeW 15 rfl (by kernel_rfl) (by kernel_rfl) rfl rfl rfl (fun _ => Ev.notF rfl rfl) ?_
                refine AG.takeW 16 rfl (by kernel_rfl) (by kernel_rfl) rfl rfl rfl (fun _ => Ev.move rfl rfl) ?_
                refine AG.take 17 rfl (by kernel_rfl) (by kernel_rfl) rfl rfl rfl (fun wq hq => Ev.ldAgg rfl rfl Tryd.underlying24 rfl sz_24 rfl (((hbws17.ext hxwl72).ext hq).cells)) ?_
                refine AG.takeW 18 rfl (by kernel_rfl) (by kernel_rfl) rfl rfl rfl (fun _ => Ev.move rfl rfl) ?_
                refine AG.takeW 19 rfl (by kernel_rfl) (by kernel_rfl) rfl rfl rfl (fun _ => (Ev.quoI rfl rfl rfl (by omega)).conv (congrArg (Value.int .i64) (show (c : Int) / 12 = ((c / 12 : Nat) : Int) by omega))) ?_
                refine AG.takeW 20 rfl (by kernel_rfl) (by kernel_rfl) rfl rfl rfl (fun _ => Ev.move rfl rfl) ?_
                refine AG.takeW 21 rfl (by kernel_rfl) (by kernel_rfl) rfl rfl rfl (fun _ => (Ev.quoI rfl rfl rfl (by omega)).conv (congrArg (Value.int .i64) (show (c : Int) / 12 = ((c / 12 : Nat) : Int) by omega))) ?_
                refine AG.takeW 22 rfl (by kernel_rfl) (by kernel_rfl) rfl rfl rfl (fun _ => (Ev.addI rfl rfl rfl (by omega)).conv (congrArg (Value.int .i64) (show ((c / 12 : Nat) : Int) + 1 = ((c / 12 + 1 : Nat) : Int) by omega))) ?_
                refine AG.takeW 23 rfl (by kernel_rfl) (by kernel_rfl) rfl rfl rfl (fun _ => Ev.cutStr (i := c / 12) (j := c / 12 + 1) rfl rfl Tryd.underlying9 rfl rfl (by omega) (by show _ ≤ 12; omega)) ?_
                refine AG.takeW 24 rfl (by kernel_rfl) (by kernel_rfl) rfl rfl rfl (fun _ => Ev.cat rfl rfl rfl (Nat.le_trans (Nat.add_le_add (Nat.le_refl 1) x12) (by decide))) ?_
                refine AG.takeW 25 rfl (by kernel_rfl) (by kernel_rfl) rfl rfl rfl (fun _ => Ev.move rfl rfl) ?_
                refine AG.takeW 26 rfl (by kernel_rfl) (by kernel_rfl) rfl rfl rfl (fun _ => (Ev.remI rfl rfl rfl (by omega)).conv (congrArg (Value.int .i64) (show (c : Int) % 12 = ((c % 12 : Nat) : Int) by omega))) ?_
                refine AG.takeW 27 rfl (by kernel_rfl) (by kernel_rfl) rfl rfl rfl (fun _ => Ev.move rfl rfl) ?_
                refine AG.takeW 28 rfl (by kernel_rfl) (by kernel_rfl) rfl rfl rfl (fun _ => (Ev.remI rfl rfl rfl (by omega)).conv (congrArg (Value.int .i64) (show (c : Int) % 12 = ((c % 12 : Nat) : Int) by omega))) ?_
                refine AG.takeW 29 rfl (by kernel_rfl) (by kernel_rfl) rfl rfl rfl (fun _ => (Ev.addI rfl rfl rfl (by omega)).conv (congrArg (Value.int .i64) (show ((c % 12 : Nat) : Int) + 1 = ((c % 12 + 1 : Nat) : Int) by omega))) ?_
                refine AG.takeW 30 rfl (by kernel_rfl) (by kernel_rfl) rfl rfl rfl (fun _ => Ev.cutStr (i := c % 12) (j := c % 12 + 1) rfl rfl Tryd.underlying9 rfl rfl (by omega) (by show _ ≤ 12; omega)) ?_
                refine AG.takeW 31 rfl (by kernel_rfl) (by kernel_rfl) rfl rfl rfl (fun _ => Ev.cat rfl rfl rfl (Nat.le_trans (Nat.add_le_add (x2 (Nat.le_refl 1) x12) x12) (by decide))) ?_
                refine AG.only 32 rfl (by kernel_rfl) ?_
                refine RG.call rfl rfl rfl rfl rfl rfl rfl en_24 (textsB_ret k _ ws _ _ (hws.ext hxwl72) (by omega) (Nat.le_trans (x2 (x2 (Nat.le_refl 1) x12) x12) (by decide))) ?_
                rintro _ w80 ⟨rfl, hx80⟩
                replace hxwl72 := Ex.tr hxwl72 hx80
                replace hE75 := Ex.tr hE75 hx80
                replace hE78 := Ex.tr hE78 hx80
                have hE81 := hx80
                refine RG.done ?_
                refine QW.an (fun _ => hE81) ?_
                refine AG.takeW 33 rfl (by kernel_rfl) (by kernel_rfl) rfl rfl rfl (fun _ => Ev.notF rfl rfl) ?_
                refine AG.takeW 34 rfl (by kernel_rfl) (by kernel_rfl) rfl rfl rfl (fun _ => Ev.pickF rfl rfl rfl) ?_
                refine AG.takeW 35 rfl (by kernel_rfl) (by kernel_rfl) rfl rfl rfl (fun _ => Ev.move rfl rfl) ?_
                refine AG.take 36 rfl (by kernel_rfl) (by kernel_rfl) rfl rfl rfl (fun wq hq => Ev.ldAgg rfl rfl Tryd.underlying24 rfl sz_24 rfl (((hbws17.ext hxwl72).ext hq).cells)) ?_
                refine AG.takeW 37 rfl (by kernel_rfl) (by kernel_rfl) rfl rfl rfl (fun _ => Ev.move rfl rfl) ?_
                refine AG.takeW 38 rfl (by kernel_rfl) (by kernel_rfl) rfl rfl rfl (fun _ => (Ev.remI rfl rfl rfl (by omega)).conv (congrArg (Value.int .i64) (show (c : Int) % 12 = ((c % 12 : Nat) : Int) by omega))) ?_
                refine AG.takeW 39 rfl (by kernel_rfl) (by kernel_rfl) rfl rfl rfl (fun _ => Ev.move rfl rfl) ?_
                refine AG.takeW 40 rfl (by kernel_rfl) (by kernel_rfl) rfl rfl rfl (fun _ => (Ev.remI rfl rfl rfl (by omega)).conv (congrArg (Value.int .i64) (show (c : Int) % 12 = ((c % 12 : Nat) : Int) by omega))) ?_
                refine AG.takeW 41 rfl (by kernel_rfl) (by kernel_rfl) rfl rfl rfl (fun _ => (Ev.addI rfl rfl rfl (by omega)).conv (congrArg (Value.int .i64) (show ((c % 12 : Nat) : Int) + 1 = ((c % 12 + 1 : Nat) : Int) by omega))) ?_
                refine AG.takeW 42 rfl (by kernel_rfl) (by kernel_rfl) rfl rfl rfl (fun _ => Ev.cutStr (i := c % 12) (j := c % 12 + 1) rfl rfl Tryd.underlying9 rfl rfl (by omega) (by show _ ≤ 12; omega)) ?_
                refine AG.only 43 rfl (by kernel_rfl) ?_
                refine RG.call rfl rfl rfl rfl rfl rfl rfl en_24 (textsB_ret k _ ws _ _ (hws.ext hxwl72) (by omega) (Nat.le_trans x12 (by decide))) ?_
                rintro _ w83 ⟨rfl, hx83⟩
                replace hxwl72 := Ex.tr hxwl72 hx83
                replace hE75 := Ex.tr hE75 hx83
                replace hE78 := Ex.tr hE78 hx83
                replace hE81 := Ex.tr hE81 hx83
                have hE84 := hx83
                refine RG.done ?_
                refine QW.an (fun _ => hE84) ?_
                refine AG.takeW 44 rfl (by kernel_rfl) (by kernel_rfl) rfl rfl rfl (fun _ => Ev.notF rfl rfl) ?_
                refine AG.takeW 45 rfl (by kernel_rfl) (by kernel_rfl) rfl rfl rfl (fun _ => Ev.pickF rfl rfl rfl) ?_
                refine AG.done (by kernel_rfl) ?_
                refine QW.sub (S' := [(1, _), (2, _), (3, _), (11, _), (128, _)]) ⟨rfl, rfl, rfl, rfl, rfl, trivial⟩ ?_
                refine QW.then_ ?_
                refine CW.condF rfl ?_
                refine CW.skip ?_
                refine QW.blockN ?_
                refine QW.then_ ?_
                refine CW.region ?_
                refine RG.vl rfl rfl rfl (Ev.move rfl rfl) ?_
                refine RG.vl rfl rfl rfl (Ev.addI rfl rfl rfl (by omega)) ?_
                refine RG.vl rfl rfl rfl (Ev.assign rfl rfl) ?_
                refine RG.done ?_
                refine QW.round1 (c + 1) ⟨rfl, trivial⟩ ⟨rfl, rfl, rfl, trivial⟩ ⟨by omega, hxwl72⟩ (by omega)
              · refine CW.exit ?_
                refine QW.thenExit ?_
                refine QW.thenExit ?_
                refine QW.blockHit ?_
                refine QW.blockN ?_
                refine QW.then_ ?_
                refine CW.region ?_
                refine RG.vl rfl rfl rfl (Ev.move rfl rfl) ?_
                refine RG.vl rfl rfl rfl (Ev.addI rfl rfl rfl (by omega)) ?_
                refine RG.vl rfl rfl rfl (Ev.assign rfl rfl) ?_
                refine RG.done ?_
                refine QW.round1 (x + 1) ⟨rfl, trivial⟩ ⟨rfl, trivial⟩ ⟨⟨by omega, by omega⟩, (Ex.tr hR65 hxwl72)⟩ (by omega)
      · refine CW.skip ?_
        refine QW.then_ ?_
        refine CW.seq ?_
        refine CW.seq ?_
        refine CW.region ?_
        refine RG.vl rfl rfl rfl (Ev.move rfl rfl) ?_
        refine RG.vl rfl rfl rfl (Ev.eqI rfl rfl rfl) ?_
        refine RG.done ?_
        refine QW.then_ ?_
        refine CW.condP rfl (fun hc85 => ?_) (fun hc85 => ?_)
        · refine CW.region ?_
          refine RG.litO (os := [_, _]) (enc := encI) ([3, 1]) rfl rfl rfl rfl rfl rfl rfl Tryd.underlying22 inf_3 rfl rfl rfl rfl rfl encI_len rfl rfl (fun vy wk86 hxwk86 hown87 hnew88 => ?_)
          have hsep89 : Sep vy _ := Sep.of_new (Own.ext hown7 hE15) hnew88
          have hsb90 := fun e => sep_blk hb10 (Nat.le_refl _) hown87 e
          replace hxwl4 := Ex.tr hxwl4 hxwk86
          replace hE9 := Ex.tr hE9 hxwk86
          replace hE15 := Ex.tr hE15 hxwk86
          have hE91 := hxwk86
          obtain ⟨Avy, Cvy, rfl⟩ := hown87.shape
          refine RG.vl rfl rfl rfl (Ev.fld rfl rfl fld_24_1) ?_
          refine RG.st (g := g10) (k := 1) rfl rfl rfl rfl rfl sz_22 rfl (hb10.ext hE91) rfl (fun ws92 hwws92 hbws92 => ?_)
          replace hown87 := Own.far hown87 hwws92 hsb90
          replace hxwl4 := Wr.below hxwl4 hwws92 hle12
          replace hE9 := Wr.below hE9 hwws92 hle13
          replace hE15 := Wr.below hE15 hwws92 hle14
          refine RG.done ?_
          refine QW.sub (S' := [(1, _), (2, _), (3, _)]) ⟨rfl, rfl, rfl, trivial⟩ ?_
          refine QW.then_ ?_
          refine CW.seq ?_
          refine CW.seq ?_
          obtain ⟨ws, hws, hwl⟩ : ∃ ws : List Int, RdL ws92 1 encI (Value.slice Avy ([3, 1] : List Int).length Cvy) ws ∧ ws.length ≤ 2 := ⟨_, (Own.rdl hown87 encI_len), by first | exact (by decide) | exact (Nat.le_of_ble_eq_true rfl)⟩
          refine CW.draw [] (.ex) 8 rfl mixed (fun wd93 hxwd93 => ?_)
          replace hxwl4 := Ex.tr hxwl4 hxwd93
          replace hE9 := Ex.tr hE9 hxwd93
          replace hE15 := Ex.tr hE15 hxwd93
          have hE94 := hxwd93
          refine AG.take 0 rfl (by kernel_rfl) (by kernel_rfl) rfl rfl rfl (fun wq hq => Ev.ldAgg rfl rfl Tryd.underlying24 rfl sz_24 rfl (((hbws92.ext hE94).ext hq).cells)) ?_
          refine AG.takeW 2 rfl (by kernel_rfl) (by kernel_rfl) rfl rfl rfl (fun _ => Ev.fld rfl rfl fld_24_0) ?_
          refine AG.take 3 rfl (by kernel_rfl) (by kernel_rfl) rfl rfl rfl (fun wq hq => Ev.ldAt rfl rfl Tryd.underlying5 rfl (((hbws92.ext hE94).ext hq).cells) (rfl)) ?_
          refine AG.takeW 4 rfl (by kernel_rfl) (by kernel_rfl) rfl rfl rfl (fun _ => Ev.fld rfl rfl fld_24_1) ?_
          refine AG.take 5 rfl (by kernel_rfl) (by kernel_rfl) rfl rfl rfl (fun wq hq => Ev.ldAt rfl rfl Tryd.underlying22 rfl (((hbws92.ext hE94).ext hq).cells) (rfl)) ?_
          refine AG.only 1 rfl (by kernel_rfl) ?_
          refine RG.call rfl rfl rfl rfl rfl rfl rfl en_22 (right_ret k _ ws _ (hws.ext hE94) (by omega)) ?_
          rintro _ w96 ⟨rfl, hx96⟩
          replace hxwl4 := Ex.tr hxwl4 hx96
          replace hE9 := Ex.tr hE9 hx96
          replace hE15 := Ex.tr hE15 hx96
          replace hE94 := Ex.tr hE94 hx96
          have hE97 := hx96
          refine RG.done ?_
          refine QW.an (fun _ => hE97) ?_
          refine AG.only 6 rfl (by kernel_rfl) ?_
          refine RG.call rfl rfl rfl rfl rfl rfl rfl en_23 (rright_ret k _ ws _ (hws.ext hE94) (by omega)) ?_
          rintro _ w99 ⟨rfl, hx99⟩
          replace hxwl4 := Ex.tr hxwl4 hx99
          replace hE9 := Ex.tr hE9 hx99
          replace hE15 := Ex.tr hE15 hx99
          replace hE94 := Ex.tr hE94 hx99
          replace hE97 := Ex.tr hE97 hx99
          have hE100 := hx99
          refine RG.done ?_
          refine QW.an (fun _ => hE100) ?_
          refine AG.takeW 7 rfl (by kernel_rfl) (by kernel_rfl) rfl rfl rfl (fun _ => Ev.isF (Ev.neB rfl rfl rfl Tryd.underlying4) (fun h => h rfl)) ?_
          refine AG.done (by kernel_rfl) ?_
          refine QW.then_ ?_
          refine CW.condF rfl ?_
          refine CW.skip ?_
          refine QW.then_ ?_
          refine CW.seq ?_
          refine CW.seq ?_
          refine CW.region ?_
          refine RG.vl rfl rfl rfl (Ev.assign rfl rfl) ?_
          refine RG.done ?_
          refine QW.then_ ?_
          refine CW.block ?_
          replace hown7 := (Own.ext hown7 hE15)
          replace hown87 := (Own.ext hown87 hE94)
          replace hbws92 := (hbws92.ext hE94)
          replace hws := (hws.ext hE94)
          have hR101 := (Ex.tr hR3 hxwl4)
          have hR102 := hxwl4
          have hR103 := hE9
          have hR104 := hE97
          have hR105 := hE100
          refine CW.loop1 [(1, _), (2, _), (3, _)] ⟨rfl, rfl, rfl, trivial⟩ (fun (n : Int) => [(4, .int .i64 n)]) (fun n w' => (-1 ≤ n ∧ n ≤ 5) ∧ Ex w99 w') (fun n => (5 - n).toNat) (-1) ⟨rfl, trivial⟩ ⟨⟨by decide, by decide⟩, (Ex.rfl_ _)⟩ ?_
          rintro n wl106 ⟨⟨hn1, hn2⟩, hxwl106⟩
          refine CW.sub (S' := [(4, _), (1, _), (2, _), (3, _)]) ⟨rfl, rfl, rfl, rfl, trivial⟩ ?_
          refine CW.seq ?_
          refine CW.seq ?_
          refine CW.region ?_
          refine RG.vl rfl rfl rfl (Ev.move rfl rfl) ?_
          refine RG.vl rfl rfl rfl (Ev.lss rfl rfl rfl) ?_
          refine RG.done ?_
          refine QW.then_ ?_
          refine CW.condP rfl (fun hc107 => ?_) (fun hc107 => ?_)
          · refine CW.skip ?_
            refine QW.then_ ?_
            refine CW.seq ?_
            refine CW.block ?_
            refine CW.seq ?_
            refine CW.region ?_
            refine RG.vl rfl rfl rfl (Ev.fld rfl rfl fld_24_0) ?_
            refine RG.vl rfl rfl rfl (Ev.ldAt rfl rfl Tryd.underlying5 rfl ((hbws92.ext hxwl106).cells) (rfl)) ?_
            refine RG.vl rfl rfl rfl (Ev.fld rfl rfl fld_24_1) ?_
            refine RG.vl rfl rfl rfl (Ev.ldAt rfl rfl Tryd.underlying22 rfl ((hbws92.ext hxwl106).cells) (rfl)) ?_
            refine RG.vl rfl rfl rfl (Ev.move rfl rfl) ?_
            refine RG.call rfl rfl rfl rfl rfl rfl rfl en_14 (rmisses_ret k _ ws _ _ (hws.ext hxwl106) (by omega)) ?_
            have hpre108 := (Ex.tr hR101 hxwl106)
            rintro _ w108 ⟨r108, rfl, hrm108, hx108⟩
            have hsb109 := fun e => sep_blk (hbws92.ext hxwl106) (Nat.le_refl _) hrm108 e
            have hsep110 : Sep r108 _ := Sep.of_new (Own.ext hown7 hxwl106) (fun k h => Own.ge hrm108 h)
            have hsep111 : Sep r108 _ := Sep.of_new (Own.ext hown87 hxwl106) (fun k h => Own.ge hrm108 h)
            replace hxwl106 := Ex.tr hxwl106 hx108
            have hE112 := hx108
            refine RG.vl rfl rfl rfl (Ev.move rfl rfl) ?_
            refine RG.vl rfl rfl rfl (Ev.extract rfl rfl rfl) ?_
            refine RG.vl rfl rfl rfl (Ev.extract rfl rfl rfl) ?_
            refine RG.vl rfl rfl rfl (Ev.assign rfl rfl) ?_
            refine RG.vl rfl rfl rfl (Ev.assign rfl rfl) ?_
            refine RG.done ?_
            refine QW.then_ ?_
            refine CW.seq ?_
            refine CW.region ?_
            refine RG.vl rfl rfl rfl (Ev.ldAgg rfl rfl Tryd.underlying24 rfl sz_24 rfl ((hbws92.ext hxwl106).cells)) ?_
            refine RG.vl rfl rfl rfl (Ev.move rfl rfl) ?_
            refine RG.call rfl rfl rfl rfl rfl rfl rfl en_15 (Misses_ret k _ ws _ _ (hws.ext hxwl106) (by omega)) ?_
            have hpre113 := (Ex.tr hR101 hxwl106)
            rintro _ w113 ⟨r113, rfl, hdm113, hx113⟩
            have hsb114 := fun e => sep_blk (hbws92.ext hxwl106) (Nat.le_refl _) hdm113 e
            have hsep115 : Sep r113 _ := Sep.of_new (Own.ext hown7 hxwl106) (fun k h => Own.ge hdm113 h)
            have hsep116 : Sep r113 _ := Sep.of_new (Own.ext hown87 hxwl106) (fun k h => Own.ge hdm113 h)
            have hsep117 : Sep r113 _ := Sep.of_new hrm108 (fun k h => Own.ge hdm113 h)
            replace hxwl106 := Ex.tr hxwl106 hx113
            replace hE112 := Ex.tr hE112 hx113
            have hE118 := hx113
            refine RG.vl rfl rfl rfl (Ev.move rfl rfl) ?_
            refine RG.vl rfl rfl rfl (Ev.extract rfl rfl rfl) ?_
            refine RG.vl rfl rfl rfl (Ev.extract rfl rfl rfl) ?_
            refine RG.vl rfl rfl rfl (Ev.assign rfl rfl) ?_
            refine RG.vl rfl rfl rfl (Ev.assign rfl rfl) ?_
            refine RG.done ?_
            refine QW.sub (S' := [(1, _), (2, _), (3, _), (4, _), (5, _), (6, _), (7, _), (8, _)]) ⟨rfl, rfl, rfl, rfl, rfl, rfl, rfl, rfl, trivial⟩ ?_
            refine QW.then_ ?_
            refine CW.seq ?_
            have hml := missR_len k ws n
            refine CW.region ?_
            refine RG.vl rfl rfl rfl (Ev.move rfl rfl) ?_
            refine RG.vl rfl rfl rfl (Ev.move rfl rfl) ?_
            refine RG.vl rfl rfl rfl (Ev.isF (Ev.neI rfl rfl rfl) (fun h => h rfl)) ?_
            refine RG.vl rfl rfl rfl (Ev.move rfl rfl) ?_
            refine RG.vl rfl rfl rfl (Ev.move rfl rfl) ?_
            refine RG.vl rfl rfl rfl (Ev.move rfl rfl) ?_
            refine RG.call rfl rfl rfl rfl rfl rfl rfl en_16 (listed_ret _ _ _ _ ((hdm113.rdl encM_len)) (((Own.ext hrm108 hE118).rdl encM_len)) (by omega)) ?_
            rintro _ w119 ⟨rfl, hx119⟩
            replace hxwl106 := Ex.tr hxwl106 hx119
            replace hE112 := Ex.tr hE112 hx119
            replace hE118 := Ex.tr hE118 hx119
            have hE120 := hx119
            refine RG.vl rfl rfl rfl (Ev.notF rfl rfl) ?_
            refine RG.vl rfl rfl rfl (Ev.pickF rfl rfl rfl) ?_
            refine RG.done ?_
            refine QW.then_ ?_
            refine CW.condF rfl ?_
            refine CW.skip ?_
            refine QW.blockN ?_
            refine QW.then_ ?_
            refine CW.region ?_
            refine RG.vl rfl rfl rfl (Ev.move rfl rfl) ?_
            refine RG.vl rfl rfl rfl (Ev.addI rfl rfl rfl (by omega)) ?_
            refine RG.vl rfl rfl rfl (Ev.assign rfl rfl) ?_
            refine RG.done ?_
            refine QW.round1 (n + 1) ⟨rfl, trivial⟩ ⟨rfl, rfl, rfl, trivial⟩ ⟨⟨by omega, by omega⟩, hxwl106⟩ (by omega)
          · refine CW.exit ?_
            refine QW.thenExit ?_
            refine QW.thenExit ?_
            refine QW.blockHit ?_
            refine QW.then_ ?_
            refine CW.seq ?_
            refine CW.seq ?_
            have hsl : smallT.length = 14 := rfl
            refine CW.region ?_
            refine RG.litO (os := [_, _, _, _, _, _, _, _, _, _, _, _, _, _]) (enc := encStr) (smallT) rfl rfl rfl rfl rfl rfl rfl Tryd.underlying50 inf_9 rfl rfl rfl rfl rfl encStr_len rfl rfl (fun vT wk121 hxwk121 hown122 hnew123 => ?_)
            have hsep124 : Sep vT _ := Sep.of_new (Own.ext hown7 hxwl106) hnew123
            have hsep125 : Sep vT _ := Sep.of_new (Own.ext hown87 hxwl106) hnew123
            have hsb126 := fun e => sep_blk (hbws92.ext hxwl106) (Nat.le_refl _) hown122 e
            replace hxwl106 := Ex.tr hxwl106 hxwk121
            have hE127 := hxwk121
            refine RG.vl rfl rfl rfl (Ev.lenL rfl rfl rfl Tryd.underlying50 ((hown122.rdl encStr_len))) ?_
            refine RG.vl rfl rfl rfl (Ev.move rfl rfl) ?_
            refine RG.done ?_
            refine QW.then_ ?_
            refine CW.block ?_
            replace hown7 := (Own.ext hown7 hxwl106)
            replace hown87 := (Own.ext hown87 hxwl106)
            replace hbws92 := (hbws92.ext hxwl106)
            replace hws := (hws.ext hxwl106)
            have hR128 := (Ex.tr hR101 hxwl106)
            have hR129 := (Ex.tr hR102 hxwl106)
            have hR130 := (Ex.tr hR103 hxwl106)
            have hR131 := (Ex.tr hR104 hxwl106)
            have hR132 := (Ex.tr hR105 hxwl106)
            have hR133 := hxwl106
            have hR134 := hE127
            refine CW.loop1 [(1, _), (2, _), (3, _), (68, _), (69, _)] ⟨rfl, rfl, rfl, rfl, rfl, trivial⟩ (fun (j : Nat) => [(70, .int .i64 (j : Int))]) (fun j w' => (j ≤ smallT.length) ∧ Ex wk121 w') (fun j => smallT.length - j) (0) ⟨rfl, trivial⟩ ⟨by omega, (Ex.rfl_ _)⟩ ?_
            rintro j wl135 ⟨hj, hxwl135⟩
            refine CW.sub (S' := [(70, _), (1, _), (2, _), (3, _), (68, _), (69, _)]) ⟨rfl, rfl, rfl, rfl, rfl, rfl, trivial⟩ ?_
            refine CW.seq ?_
            refine CW.region ?_
            refine RG.vl rfl rfl rfl (Ev.lss rfl rfl rfl) ?_
            refine RG.done ?_
            refine QW.then_ ?_
            refine CW.seq ?_
            refine CW.condP rfl (fun hc136 => ?_) (fun hc136 => ?_)
            · refine CW.skip ?_
              refine QW.then_ ?_
              refine CW.seq ?_
              refine CW.block ?_
              refine CW.seq ?_
              obtain ⟨b, hb⟩ : ∃ b, smallT[j]? = some b := ⟨_, List.getElem?_eq_getElem (by omega)⟩
              have hbs := smallT_sz b (List.mem_of_getElem? hb)
              refine CW.region ?_
              refine RG.idxO rfl rfl rfl rfl rfl rfl Tryd.underlying50 sz_9 encStr_len ((Own.ext hown122 hxwl135)) (hb) (fun g138 hg138 hBg138 hp137b hp137 => ?_)
              refine RG.vl rfl rfl rfl (Ev.ld0 rfl rfl Tryd.underlying9 rfl (hp137) (rfl)) ?_
              refine RG.vl rfl rfl rfl (Ev.assign rfl rfl) ?_
              refine RG.done ?_
              refine QW.then_ ?_
              refine CW.seq ?_
              refine CW.region ?_
              refine RG.vl rfl rfl rfl (Ev.ldAgg rfl rfl Tryd.underlying24 rfl sz_24 rfl ((hbws92.ext hxwl135).cells)) ?_
              refine RG.vl rfl rfl rfl (Ev.move rfl rfl) ?_
              refine RG.call rfl rfl rfl rfl rfl rfl rfl en_24 (textsB_ret k _ ws _ _ (hws.ext hxwl135) (by omega) (hbs)) ?_
              rintro _ w139 ⟨rfl, hx139⟩
              replace hxwl135 := Ex.tr hxwl135 hx139
              have hE140 := hx139
              refine RG.vl rfl rfl rfl (Ev.notF rfl rfl) ?_
              refine RG.done ?_
              refine QW.then_ ?_
              refine CW.condF rfl ?_
              refine CW.skip ?_
              refine QW.blockN ?_
              refine QW.then_ ?_
              refine CW.region ?_
              refine RG.vl rfl rfl rfl (Ev.addI rfl rfl rfl (by omega)) ?_
              refine RG.vl rfl rfl rfl (Ev.move rfl rfl) ?_
              refine RG.done ?_
              refine QW.round1 (j + 1) ⟨rfl, trivial⟩ ⟨rfl, rfl, rfl, rfl, rfl, trivial⟩ ⟨by omega, hxwl135⟩ (by omega)
            · refine CW.exit ?_
              refine QW.thenExit ?_
              refine QW.thenExit ?_
              refine QW.blockHit ?_
              refine QW.then_ ?_
              refine CW.seq ?_
              refine CW.region ?_
              refine RG.vl rfl rfl rfl (Ev.assign rfl rfl) ?_
              refine RG.done ?_
              refine QW.then_ ?_
              refine CW.block ?_
              replace hown7 := (Own.ext hown7 hxwl135)
              replace hown87 := (Own.ext hown87 hxwl135)
              replace hbws92 := (hbws92.ext hxwl135)
              replace hws := (hws.ext hxwl135)
              replace hown122 := (Own.ext hown122 hxwl135)
              have hR141 := (Ex.tr hR128 hxwl135)
              have hR142 := (Ex.tr hR129 hxwl135)
              have hR143 := (Ex.tr hR130 hxwl135)
              have hR144 := (Ex.tr hR131 hxwl135)
              have hR145 := (Ex.tr hR132 hxwl135)
              have hR146 := (Ex.tr hR133 hxwl135)
              have hR147 := (Ex.tr hR134 hxwl135)
              have hR148 := hxwl135
              refine CW.loop1 [(1, _), (2, _), (3, _)] ⟨rfl, rfl, rfl, trivial⟩ (fun (c : Nat) => [(11, .int .i64 (c : Int))]) (fun c w' => (c ≤ 144) ∧ Ex wl135 w') (fun c => 144 - c) (0) ⟨rfl, trivial⟩ ⟨by omega, (Ex.rfl_ _)⟩ ?_
              rintro c wl149 ⟨hc, hxwl149⟩
              refine CW.sub (S' := [(11, _), (1, _), (2, _), (3, _)]) ⟨rfl, rfl, rfl, rfl, trivial⟩ ?_
              refine CW.seq ?_
              refine CW.seq ?_
              refine CW.region ?_
              refine RG.vl rfl rfl rfl (Ev.move rfl rfl) ?_
              refine RG.vl rfl rfl rfl (Ev.lss rfl rfl rfl) ?_
              refine RG.done ?_
              refine QW.then_ ?_
              refine CW.condP rfl (fun hc150 => ?_) (fun hc150 => ?_)
              · refine CW.skip ?_
                refine QW.then_ ?_
                refine CW.seq ?_
                refine CW.block ?_
                refine CW.seq ?_
                refine CW.draw [] (.ex) 46 rfl mixed (fun wd151 hxwd151 => ?_)
                replace hxwl149 := Ex.tr hxwl149 hxwd151
                have hE152 := hxwd151
                refine AG.take 0 rfl (by kernel_rfl) (by kernel_rfl) rfl rfl rfl (fun wq hq => Ev.ldAgg rfl rfl Tryd.underlying24 rfl sz_24 rfl (((hbws92.ext hxwl149).ext hq).cells)) ?_
                refine AG.takeW 1 rfl (by kernel_rfl) (by kernel_rfl) rfl rfl rfl (fun _ => Ev.move rfl rfl) ?_
                refine AG.takeW 2 rfl (by kernel_rfl) (by kernel_rfl) rfl rfl rfl (fun _ => (Ev.quoI rfl rfl rfl (by omega)).conv (congrArg (Value.int .i64) (show (c : Int) / 12 = ((c / 12 : Nat) : Int) by omega))) ?_
                refine AG.takeW 3 rfl (by kernel_rfl) (by kernel_rfl) rfl rfl rfl (fun _ => Ev.move rfl rfl) ?_
                refine AG.takeW 4 rfl (by kernel_rfl) (by kernel_rfl) rfl rfl rfl (fun _ => (Ev.quoI rfl rfl rfl (by omega)).conv (congrArg (Value.int .i64) (show (c : Int) / 12 = ((c / 12 : Nat) : Int) by omega))) ?_
                refine AG.takeW 5 rfl (by kernel_rfl) (by kernel_rfl) rfl rfl rfl (fun _ => (Ev.addI rfl rfl rfl (by omega)).conv (congrArg (Value.int .i64) (show ((c / 12 : Nat) : Int) + 1 = ((c / 12 + 1 : Nat) : Int) by omega))) ?_
                refine AG.takeW 6 rfl (by kernel_rfl) (by kernel_rfl) rfl rfl rfl (fun _ => Ev.cutStr (i := c / 12) (j := c / 12 + 1) rfl rfl Tryd.underlying9 rfl rfl (by omega) (by show _ ≤ 12; omega)) ?_
                refine AG.takeW 7 rfl (by kernel_rfl) (by kernel_rfl) rfl rfl rfl (fun _ => Ev.move rfl rfl) ?_
                refine AG.takeW 8 rfl (by kernel_rfl) (by kernel_rfl) rfl rfl rfl (fun _ => (Ev.remI rfl rfl rfl (by omega)).conv (congrArg (Value.int .i64) (show (c : Int) % 12 = ((c % 12 : Nat) : Int) by omega))) ?_
                refine AG.takeW 9 rfl (by kernel_rfl) (by kernel_rfl) rfl rfl rfl (fun _ => Ev.move rfl rfl) ?_
                refine AG.takeW 10 rfl (by kernel_rfl) (by kernel_rfl) rfl rfl rfl (fun _ => (Ev.remI rfl rfl rfl (by omega)).conv (congrArg (Value.int .i64) (show (c : Int) % 12 = ((c % 12 : Nat) : Int) by omega))) ?_
                refine AG.takeW 11 rfl (by kernel_rfl) (by kernel_rfl) rfl rfl rfl (fun _ => (Ev.addI rfl rfl rfl (by omega)).conv (congrArg (Value.int .i64) (show ((c % 12 : Nat) : Int) + 1 = ((c % 12 + 1 : Nat) : Int) by omega))) ?_
                refine AG.takeW 12 rfl (by kernel_rfl) (by kernel_rfl) rfl rfl rfl (fun _ => Ev.cutStr (i := c % 12) (j := c % 12 + 1) rfl rfl Tryd.underlying9 rfl rfl (by omega) (by show _ ≤ 12; omega)) ?_
                refine AG.takeW 13 rfl (by kernel_rfl) (by kernel_rfl) rfl rfl rfl (fun _ => Ev.cat rfl rfl rfl (Nat.le_trans (Nat.add_le_add x12 x12) (by decide))) ?_
                refine AG.only 14 rfl (by kernel_rfl) ?_
                refine RG.call rfl rfl rfl rfl rfl rfl rfl en_24 (textsB_ret k _ ws _ _ (hws.ext hxwl149) (by omega) (Nat.le_trans (x2 x12 x12) (by decide))) ?_
                rintro _ w154 ⟨rfl, hx154⟩
                replace hxwl149 := Ex.tr hxwl149 hx154
                replace hE152 := Ex.tr hE152 hx154
                have hE155 := hx154
                refine RG.done ?_
                refine QW.an (fun _ => hE155) ?_
                refine AG.takeW 15 rfl (by kernel_rfl) (by kernel_rfl) rfl rfl rfl (fun _ => Ev.notF rfl rfl) ?_
                refine AG.takeW 16 rfl (by kernel_rfl) (by kernel_rfl) rfl rfl rfl (fun _ => Ev.move rfl rfl) ?_
                refine AG.take 17 rfl (by kernel_rfl) (by kernel_rfl) rfl rfl rfl (fun wq hq => Ev.ldAgg rfl rfl Tryd.underlying24 rfl sz_24 rfl (((hbws92.ext hxwl149).ext hq).cells)) ?_
                refine AG.takeW 18 rfl (by kernel_rfl) (by kernel_rfl) rfl rfl rfl (fun _ => Ev.move rfl rfl) ?_
                refine AG.takeW 19 rfl (by kernel_rfl) (by kernel_rfl) rfl rfl rfl (fun _ => (Ev.quoI rfl rfl rfl (by omega)).conv (congrArg (Value.int .i64) (show (c : Int) / 12 = ((c / 12 : Nat) : Int) by omega))) ?_
                refine AG.takeW 20 rfl (by kernel_rfl) (by kernel_rfl) rfl rfl rfl (fun _ => Ev.move rfl rfl) ?_
                refine AG.takeW 21 rfl (by kernel_rfl) (by kernel_rfl) rfl rfl rfl (fun _ => (Ev.quoI rfl rfl rfl (by omega)).conv (congrArg (Value.int .i64) (show (c : Int) / 12 = ((c / 12 : Nat) : Int) by omega))) ?_
                refine AG.takeW 22 rfl (by kernel_rfl) (by kernel_rfl) rfl rfl rfl (fun _ => (Ev.addI rfl rfl rfl (by omega)).conv (congrArg (Value.int .i64) (show ((c / 12 : Nat) : Int) + 1 = ((c / 12 + 1 : Nat) : Int) by omega))) ?_
                refine AG.takeW 23 rfl (by kernel_rfl) (by kernel_rfl) rfl rfl rfl (fun _ => Ev.cutStr (i := c / 12) (j := c / 12 + 1) rfl rfl Tryd.underlying9 rfl rfl (by omega) (by show _ ≤ 12; omega)) ?_
                refine AG.takeW 24 rfl (by kernel_rfl) (by kernel_rfl) rfl rfl rfl (fun _ => Ev.cat rfl rfl rfl (Nat.le_trans (Nat.add_le_add (Nat.le_refl 1) x12) (by decide))) ?_
                refine AG.takeW 25 rfl (by kernel_rfl) (by kernel_rfl) rfl rfl rfl (fun _ => Ev.move rfl rfl) ?_
                refine AG.takeW 26 rfl (by kernel_rfl) (by kernel_rfl) rfl rfl rfl (fun _ => (Ev.remI rfl rfl rfl (by omega)).conv (congrArg (Value.int .i64) (show (c : Int) % 12 = ((c % 12 : Nat) : Int) by omega))) ?_
                refine AG.takeW 27 rfl (by kernel_rfl) (by kernel_rfl) rfl rfl rfl (fun _ => Ev.move rfl rfl) ?_
                refine AG.takeW 28 rfl (by kernel_rfl) (by kernel_rfl) rfl rfl rfl (fun _ => (Ev.remI rfl rfl rfl (by omega)).conv (congrArg (Value.int .i64) (show (c : Int) % 12 = ((c % 12 : Nat) : Int) by omega))) ?_
                refine AG.takeW 29 rfl (by kernel_rfl) (by kernel_rfl) rfl rfl rfl (fun _ => (Ev.addI rfl rfl rfl (by omega)).conv (congrArg (Value.int .i64) (show ((c % 12 : Nat) : Int) + 1 = ((c % 12 + 1 : Nat) : Int) by omega))) ?_
                refine AG.takeW 30 rfl (by kernel_rfl) (by kernel_rfl) rfl rfl rfl (fun _ => Ev.cutStr (i := c % 12) (j := c % 12 + 1) rfl rfl Tryd.underlying9 rfl rfl (by omega) (by show _ ≤ 12; omega)) ?_
                refine AG.takeW 31 rfl (by kernel_rfl) (by kernel_rfl) rfl rfl rfl (fun _ => Ev.cat rfl rfl rfl (Nat.le_trans (Nat.add_le_add (x2 (Nat.le_refl 1) x12) x12) (by decide))) ?_
                refine AG.only 32 rfl (by kernel_rfl) ?_
                refine RG.call rfl rfl rfl rfl rfl rfl rfl en_24 (textsB_ret k _ ws _ _ (hws.ext hxwl149) (by omega) (Nat.le_trans (x2 (x2 (Nat.le_refl 1) x12) x12) (by decide))) ?_
                rintro _ w157 ⟨rfl, hx157⟩
                replace hxwl149 := Ex.tr hxwl149 hx157
                replace hE152 := Ex.tr hE152 hx157
                replace hE155 := Ex.tr hE155 hx157
                have hE158 := hx157
                refine RG.done ?_
                refine QW.an (fun _ => hE158) ?_
                refine AG.takeW 33 rfl (by kernel_rfl) (by kernel_rfl) rfl rfl rfl (fun _ => Ev.notF rfl rfl) ?_
                refine AG.takeW 34 rfl (by kernel_rfl) (by kernel_rfl) rfl rfl rfl (fun _ => Ev.pickF rfl rfl rfl) ?_
                refine AG.takeW 35 rfl (by kernel_rfl) (by kernel_rfl) rfl rfl rfl (fun _ => Ev.move rfl rfl) ?_
                refine AG.take 36 rfl (by kernel_rfl) (by kernel_rfl) rfl rfl rfl (fun wq hq => Ev.ldAgg rfl rfl Tryd.underlying24 rfl sz_24 rfl (((hbws92.ext hxwl149).ext hq).cells)) ?_
                refine AG.takeW 37 rfl (by kernel_rfl) (by kernel_rfl) rfl rfl rfl (fun _ => Ev.move rfl rfl) ?_
                refine AG.takeW 38 rfl (by kernel_rfl) (by kernel_rfl) rfl rfl rfl (fun _ => (Ev.remI rfl rfl rfl (by omega)).conv (congrArg (Value.int .i64) (show (c : Int) % 12 = ((c % 12 : Nat) : Int) by omega))) ?_
                refine AG.takeW 39 rfl (by kernel_rfl) (by kernel_rfl) rfl rfl rfl (fun _ => Ev.move rfl rfl) ?_
                refine AG.takeW 40 rfl (by kernel_rfl) (by kernel_rfl) rfl rfl rfl (fun _ => (Ev.remI rfl rfl rfl (by omega)).conv (congrArg (Value.int .i64) (show (c : Int) % 12 = ((c % 12 : Nat) : Int) by omega))) ?_
                refine AG.takeW 41 rfl (by kernel_rfl) (by kernel_rfl) rfl rfl rfl (fun _ => (Ev.addI rfl rfl rfl (by omega)).conv (congrArg (Value.int .i64) (show ((c % 12 : Nat) : Int) + 1 = ((c % 12 + 1 : Nat) : Int) by omega))) ?_
                refine AG.takeW 42 rfl (by kernel_rfl) (by kernel_rfl) rfl rfl rfl (fun _ => Ev.cutStr (i := c % 12) (j := c % 12 + 1) rfl rfl Tryd.underlying9 rfl rfl (by omega) (by show _ ≤ 12; omega)) ?_
                refine AG.only 43 rfl (by kernel_rfl) ?_
                refine RG.call rfl rfl rfl rfl rfl rfl rfl en_24 (textsB_ret k _ ws _ _ (hws.ext hxwl149) (by omega) (Nat.le_trans x12 (by decide))) ?_
                rintro _ w160 ⟨rfl, hx160⟩
                replace hxwl149 := Ex.tr hxwl149 hx160
                replace hE152 := Ex.tr hE152 hx160
                replace hE155 := Ex.tr hE155 hx160
                replace hE158 := Ex.tr hE158 hx160
                have hE161 := hx160
                refine RG.done ?_
                refine QW.an (fun _ => hE161) ?_
                refine AG.takeW 44 rfl (by kernel_rfl) (by kernel_rfl) rfl rfl rfl (fun _ => Ev.notF rfl rfl) ?_
                refine AG.takeW 45 rfl (by kernel_rfl) (by kernel_rfl) rfl rfl rfl (fun _ => Ev.pickF rfl rfl rfl) ?_
                refine AG.done (by kernel_rfl) ?_
                refine QW.sub (S' := [(1, _), (2, _), (3, _), (11, _), (128, _)]) ⟨rfl, rfl, rfl, rfl, rfl, trivial⟩ ?_
                refine QW.then_ ?_
                refine CW.condF rfl ?_
                refine CW.skip ?_
                refine QW.blockN ?_
                refine QW.then_ ?_
                refine CW.region ?_
                refine RG.vl rfl rfl rfl (Ev.move rfl rfl) ?_
                refine RG.vl rfl rfl rfl (Ev.addI rfl rfl rfl (by omega)) ?_
                refine RG.vl rfl rfl rfl (Ev.assign rfl rfl) ?_
                refine RG.done ?_
                refine QW.round1 (c + 1) ⟨rfl, trivial⟩ ⟨rfl, rfl, rfl, trivial⟩ ⟨by omega, hxwl149⟩ (by omega)
              · refine CW.exit ?_
                refine QW.thenExit ?_
                refine QW.thenExit ?_
                refine QW.blockHit ?_
                refine QW.blockN ?_
                refine QW.then_ ?_
                refine CW.region ?_
                refine RG.vl rfl rfl rfl (Ev.move rfl rfl) ?_
                refine RG.vl rfl rfl rfl (Ev.addI rfl rfl rfl (by omega)) ?_
                refine RG.vl rfl rfl rfl (Ev.assign rfl rfl) ?_
                refine RG.done ?_
                refine QW.round1 (x + 1) ⟨rfl, trivial⟩ ⟨rfl, trivial⟩ ⟨⟨by omega, by omega⟩, (Ex.tr hR142 hxwl149)⟩ (by omega)
        · refine CW.skip ?_
          refine QW.then_ ?_
          refine CW.seq ?_
          refine CW.seq ?_
          obtain ⟨ws, hws, hwl⟩ : ∃ ws : List Int, RdL w10 1 encI (Value.slice Avx ([x] : List Int).length Cvx) ws ∧ ws.length ≤ 2 := ⟨_, (Own.rdl (Own.ext hown7 hE15) encI_len), by first | exact (by decide) | exact (Nat.le_of_ble_eq_true rfl)⟩
          refine CW.draw [] (.ex) 8 rfl mixed (fun wd162 hxwd162 => ?_)
          replace hxwl4 := Ex.tr hxwl4 hxwd162
          replace hE9 := Ex.tr hE9 hxwd162
          replace hE15 := Ex.tr hE15 hxwd162
          have hE163 := hxwd162
          refine AG.take 0 rfl (by kernel_rfl) (by kernel_rfl) rfl rfl rfl (fun wq hq => Ev.ldAgg rfl rfl Tryd.underlying24 rfl sz_24 rfl (((hb10.ext hE163).ext hq).cells)) ?_
          refine AG.takeW 2 rfl (by kernel_rfl) (by kernel_rfl) rfl rfl rfl (fun _ => Ev.fld rfl rfl fld_24_0) ?_
          refine AG.take 3 rfl (by kernel_rfl) (by kernel_rfl) rfl rfl rfl (fun wq hq => Ev.ldAt rfl rfl Tryd.underlying5 rfl (((hb10.ext hE163).ext hq).cells) (rfl)) ?_
          refine AG.takeW 4 rfl (by kernel_rfl) (by kernel_rfl) rfl rfl rfl (fun _ => Ev.fld rfl rfl fld_24_1) ?_
          refine AG.take 5 rfl (by kernel_rfl) (by kernel_rfl) rfl rfl rfl (fun wq hq => Ev.ldAt rfl rfl Tryd.underlying22 rfl (((hb10.ext hE163).ext hq).cells) (rfl)) ?_
          refine AG.only 1 rfl (by kernel_rfl) ?_
          refine RG.call rfl rfl rfl rfl rfl rfl rfl en_22 (right_ret k _ ws _ (hws.ext hE163) (by omega)) ?_
          rintro _ w165 ⟨rfl, hx165⟩
          replace hxwl4 := Ex.tr hxwl4 hx165
          replace hE9 := Ex.tr hE9 hx165
          replace hE15 := Ex.tr hE15 hx165
          replace hE163 := Ex.tr hE163 hx165
          have hE166 := hx165
          refine RG.done ?_
          refine QW.an (fun _ => hE166) ?_
          refine AG.only 6 rfl (by kernel_rfl) ?_
          refine RG.call rfl rfl rfl rfl rfl rfl rfl en_23 (rright_ret k _ ws _ (hws.ext hE163) (by omega)) ?_
          rintro _ w168 ⟨rfl, hx168⟩
          replace hxwl4 := Ex.tr hxwl4 hx168
          replace hE9 := Ex.tr hE9 hx168
          replace hE15 := Ex.tr hE15 hx168
          replace hE163 := Ex.tr hE163 hx168
          replace hE166 := Ex.tr hE166 hx168
          have hE169 := hx168
          refine RG.done ?_
          refine QW.an (fun _ => hE169) ?_
          refine AG.takeW 7 rfl (by kernel_rfl) (by kernel_rfl) rfl rfl rfl (fun _ => Ev.isF (Ev.neB rfl rfl rfl Tryd.underlying4) (fun h => h rfl)) ?_
          refine AG.done (by kernel_rfl) ?_
          refine QW.sub (S' := [(1, _), (2, _), (3, _), (39, _)]) ⟨rfl, rfl, rfl, rfl, trivial⟩ ?_
          refine QW.then_ ?_
          refine CW.condF rfl ?_
          refine CW.skip ?_
          refine QW.then_ ?_
          refine CW.seq ?_
          refine CW.seq ?_
          refine CW.region ?_
          refine RG.vl rfl rfl rfl (Ev.assign rfl rfl) ?_
          refine RG.done ?_
          refine QW.then_ ?_
          refine CW.block ?_
          replace hown7 := (Own.ext hown7 hE15)
          replace hb10 := (hb10.ext hE163)
          replace hws := (hws.ext hE163)
          have hR170 := (Ex.tr hR3 hxwl4)
          have hR171 := hxwl4
          have hR172 := hE9
          have hR173 := hE166
          have hR174 := hE169
          refine CW.loop1 [(1, _), (2, _), (3, _)] ⟨rfl, rfl, rfl, trivial⟩ (fun (n : Int) => [(4, .int .i64 n)]) (fun n w' => (-1 ≤ n ∧ n ≤ 5) ∧ Ex w168 w') (fun n => (5 - n).toNat) (-1) ⟨rfl, trivial⟩ ⟨⟨by decide, by decide⟩, (Ex.rfl_ _)⟩ ?_
          rintro n wl175 ⟨⟨hn1, hn2⟩, hxwl175⟩
          refine CW.sub (S' := [(4, _), (1, _), (2, _), (3, _)]) ⟨rfl, rfl, rfl, rfl, trivial⟩ ?_
          refine CW.seq ?_
          refine CW.seq ?_
          refine CW.region ?_
          refine RG.vl rfl rfl rfl (Ev.move rfl rfl) ?_
          refine RG.vl rfl rfl rfl (Ev.lss rfl rfl rfl) ?_
          refine RG.done ?_
          refine QW.then_ ?_
          refine CW.condP rfl (fun hc176 => ?_) (fun hc176 => ?_)
          · refine CW.skip ?_
            refine QW.then_ ?_
            refine CW.seq ?_
            refine CW.block ?_
            refine CW.seq ?_
            refine CW.region ?_
            refine RG.vl rfl rfl rfl (Ev.fld rfl rfl fld_24_0) ?_
            refine RG.vl rfl rfl rfl (Ev.ldAt rfl rfl Tryd.underlying5 rfl ((hb10.ext hxwl175).cells) (rfl)) ?_
            refine RG.vl rfl rfl rfl (Ev.fld rfl rfl fld_24_1) ?_
            refine RG.vl rfl rfl rfl (Ev.ldAt rfl rfl Tryd.underlying22 rfl ((hb10.ext hxwl175).cells) (rfl)) ?_
            refine RG.vl rfl rfl rfl (Ev.move rfl rfl) ?_
            refine RG.call rfl rfl rfl rfl rfl rfl rfl en_14 (rmisses_ret k _ ws _ _ (hws.ext hxwl175) (by omega)) ?_
            have hpre177 := (Ex.tr hR170 hxwl175)
            rintro _ w177 ⟨r177, rfl, hrm177, hx177⟩
            have hsb178 := fun e => sep_blk (hb10.ext hxwl175) (Nat.le_refl _) hrm177 e
            have hsep179 : Sep r177 _ := Sep.of_new (Own.ext hown7 hxwl175) (fun k h => Own.ge hrm177 h)
            replace hxwl175 := Ex.tr hxwl175 hx177
            have hE180 := hx177
            refine RG.vl rfl rfl rfl (Ev.move rfl rfl) ?_
            refine RG.vl rfl rfl rfl (Ev.extract rfl rfl rfl) ?_
            refine RG.vl rfl rfl rfl (Ev.extract rfl rfl rfl) ?_
            refine RG.vl rfl rfl rfl (Ev.assign rfl rfl) ?_
            refine RG.vl rfl rfl rfl (Ev.assign rfl rfl) ?_
            refine RG.done ?_
            refine QW.then_ ?_
            refine CW.seq ?_
            refine CW.region ?_
            refine RG.vl rfl rfl rfl (Ev.ldAgg rfl rfl Tryd.underlying24 rfl sz_24 rfl ((hb10.ext hxwl175).cells)) ?_
            refine RG.vl rfl rfl rfl (Ev.move rfl rfl) ?_
            refine RG.call rfl rfl rfl rfl rfl rfl rfl en_15 (Misses_ret k _ ws _ _ (hws.ext hxwl175) (by omega)) ?_
            have hpre181 := (Ex.tr hR170 hxwl175)
            rintro _ w181 ⟨r181, rfl, hdm181, hx181⟩
            have hsb182 := fun e => sep_blk (hb10.ext hxwl175) (Nat.le_refl _) hdm181 e
            have hsep183 : Sep r181 _ := Sep.of_new (Own.ext hown7 hxwl175) (fun k h => Own.ge hdm181 h)
            have hsep184 : Sep r181 _ := Sep.of_new hrm177 (fun k h => Own.ge hdm181 h)
            replace hxwl175 := Ex.tr hxwl175 hx181
            replace hE180 := Ex.tr hE180 hx181
            have hE185 := hx181
            refine RG.vl rfl rfl rfl (Ev.move rfl rfl) ?_
            refine RG.vl rfl rfl rfl (Ev.extract rfl rfl rfl) ?_
            refine RG.vl rfl rfl rfl (Ev.extract rfl rfl rfl) ?_
            refine RG.vl rfl rfl rfl (Ev.assign rfl rfl) ?_
            refine RG.vl rfl rfl rfl (Ev.assign rfl rfl) ?_
            refine RG.done ?_
            refine QW.sub (S' := [(1, _), (2, _), (3, _), (4, _), (5, _), (6, _), (7, _), (8, _)]) ⟨rfl, rfl, rfl, rfl, rfl, rfl, rfl, rfl, trivial⟩ ?_
            refine QW.then_ ?_
            refine CW.seq ?_
            have hml := missR_len k ws n
            refine CW.region ?_
            refine RG.vl rfl rfl rfl (Ev.move rfl rfl) ?_
            refine RG.vl rfl rfl rfl (Ev.move rfl rfl) ?_
            refine RG.vl rfl rfl rfl (Ev.isF (Ev.neI rfl rfl rfl) (fun h => h rfl)) ?_
            refine RG.vl rfl rfl rfl (Ev.move rfl rfl) ?_
            refine RG.vl rfl rfl rfl (Ev.move rfl rfl) ?_
            refine RG.vl rfl rfl rfl (Ev.move rfl rfl) ?_
            refine RG.call rfl rfl rfl rfl rfl rfl rfl en_16 (listed_ret _ _ _ _ ((hdm181.rdl encM_len)) (((Own.ext hrm177 hE185).rdl encM_len)) (by omega)) ?_
            rintro _ w186 ⟨rfl, hx186⟩
            replace hxwl175 := Ex.tr hxwl175 hx186
            replace hE180 := Ex.tr hE180 hx186
            replace hE185 := Ex.tr hE185 hx186
            have hE187 := hx186
            refine RG.vl rfl rfl rfl (Ev.notF rfl rfl) ?_
            refine RG.vl rfl rfl rfl (Ev.pickF rfl rfl rfl) ?_
            refine RG.done ?_
            refine QW.then_ ?_
            refine CW.condF rfl ?_
            refine CW.skip ?_
            refine QW.blockN ?_
            refine QW.then_ ?_
            refine CW.region ?_
            refine RG.vl rfl rfl rfl (Ev.move rfl rfl) ?_
            refine RG.vl rfl rfl rfl (Ev.addI rfl rfl rfl (by omega)) ?_
            refine RG.vl rfl rfl rfl (Ev.assign rfl rfl) ?_
            refine RG.done ?_
            refine QW.round1 (n + 1) ⟨rfl, trivial⟩ ⟨rfl, rfl, rfl, trivial⟩ ⟨⟨by omega, by omega⟩, hxwl175⟩ (by omega)
          · refine CW.exit ?_
            refine QW.thenExit ?_
            refine QW.thenExit ?_
            refine QW.blockHit ?_
            refine QW.then_ ?_
            refine CW.seq ?_
            refine CW.seq ?_
            have hsl : smallT.length = 14 := rfl
            refine CW.region ?_
            refine RG.litO (os := [_, _, _, _, _, _, _, _, _, _, _, _, _, _]) (enc := encStr) (smallT) rfl rfl rfl rfl rfl rfl rfl Tryd.underlying50 inf_9 rfl rfl rfl rfl rfl encStr_len rfl rfl (fun vT wk188 hxwk188 hown189 hnew190 => ?_)
            have hsep191 : Sep vT _ := Sep.of_new (Own.ext hown7 hxwl175) hnew190
            have hsb192 := fun e => sep_blk (hb10.ext hxwl175) (Nat.le_refl _) hown189 e
            replace hxwl175 := Ex.tr hxwl175 hxwk188
            have hE193 := hxwk188
            refine RG.vl rfl rfl rfl (Ev.lenL rfl rfl rfl Tryd.underlying50 ((hown189.rdl encStr_len))) ?_
            refine RG.vl rfl rfl rfl (Ev.move rfl rfl) ?_
            refine RG.done ?_
            refine QW.then_ ?_
            refine CW.block ?_
            replace hown7 := (Own.ext hown7 hxwl175)
            replace hb10 := (hb10.ext hxwl175)
            replace hws := (hws.ext hxwl175)
            have hR194 := (Ex.tr hR170 hxwl175)
            have hR195 := (Ex.tr hR171 hxwl175)
            have hR196 := (Ex.tr hR172 hxwl175)
            have hR197 := (Ex.tr hR173 hxwl175)
            have hR198 := (Ex.tr hR174 hxwl175)
            have hR199 := hxwl175
            have hR200 := hE193
            refine CW.loop1 [(1, _), (2, _), (3, _), (68, _), (69, _)] ⟨rfl, rfl, rfl, rfl, rfl, trivial⟩ (fun (j : Nat) => [(70, .int .i64 (j : Int))]) (fun j w' => (j ≤ smallT.length) ∧ Ex wk188 w') (fun j => smallT.length - j) (0) ⟨rfl, trivial⟩ ⟨by omega, (Ex.rfl_ _)⟩ ?_
            rintro j wl201 ⟨hj, hxwl201⟩
            refine CW.sub (S' := [(70, _), (1, _), (2, _), (3, _), (68, _), (69, _)]) ⟨rfl, rfl, rfl, rfl, rfl, rfl, trivial⟩ ?_
            refine CW.seq ?_
            refine CW.region ?_
            refine RG.vl rfl rfl rfl (Ev.lss rfl rfl rfl) ?_
            refine RG.done ?_
            refine QW.then_ ?_
            refine CW.seq ?_
            refine CW.condP rfl (fun hc202 => ?_) (fun hc202 => ?_)
            · refine CW.skip ?_
              refine QW.then_ ?_
              refine CW.seq ?_
              refine CW.block ?_
              refine CW.seq ?_
              obtain ⟨b, hb⟩ : ∃ b, smallT[j]? = some b := ⟨_, List.getElem?_eq_getElem (by omega)⟩
              have hbs := smallT_sz b (List.mem_of_getElem? hb)
              refine CW.region ?_
              refine RG.idxO rfl rfl rfl rfl rfl rfl Tryd.underlying50 sz_9 encStr_len ((Own.ext hown189 hxwl201)) (hb) (fun g204 hg204 hBg204 hp203b hp203 => ?_)
              refine RG.vl rfl rfl rfl (Ev.ld0 rfl rfl Tryd.underlying9 rfl (hp203) (rfl)) ?_
              refine RG.vl rfl rfl rfl (Ev.assign rfl rfl) ?_
              refine RG.done ?_
              refine QW.then_ ?_
              refine CW.seq ?_
              refine CW.region ?_
              refine RG.vl rfl rfl rfl (Ev.ldAgg rfl rfl Tryd.underlying24 rfl sz_24 rfl ((hb10.ext hxwl201).cells)) ?_
              refine RG.vl rfl rfl rfl (Ev.move rfl rfl) ?_
              refine RG.call rfl rfl rfl rfl rfl rfl rfl en_24 (textsB_ret k _ ws _ _ (hws.ext hxwl201) (by omega) (hbs)) ?_
              rintro _ w205 ⟨rfl, hx205⟩
              replace hxwl201 := Ex.tr hxwl201 hx205
              have hE206 := hx205
              refine RG.vl rfl rfl rfl (Ev.notF rfl rfl) ?_
              refine RG.done ?_
              refine QW.then_ ?_
              refine CW.condF rfl ?_
              refine CW.skip ?_
              refine QW.blockN ?_
              refine QW.then_ ?_
              refine CW.region ?_
              refine RG.vl rfl rfl rfl (Ev.addI rfl rfl rfl (by omega)) ?_
              refine RG.vl rfl rfl rfl (Ev.move rfl rfl) ?_
              refine RG.done ?_
              refine QW.round1 (j + 1) ⟨rfl, trivial⟩ ⟨rfl, rfl, rfl, rfl, rfl, trivial⟩ ⟨by omega, hxwl201⟩ (by omega)
            · refine CW.exit ?_
              refine QW.thenExit ?_
              refine QW.thenExit ?_
              refine QW.blockHit ?_
              refine QW.then_ ?_
              refine CW.seq ?_
              refine CW.region ?_
              refine RG.vl rfl rfl rfl (Ev.assign rfl rfl) ?_
              refine RG.done ?_
              refine QW.then_ ?_
              refine CW.block ?_
              replace hown7 := (Own.ext hown7 hxwl201)
              replace hb10 := (hb10.ext hxwl201)
              replace hws := (hws.ext hxwl201)
              replace hown189 := (Own.ext hown189 hxwl201)
              have hR207 := (Ex.tr hR194 hxwl201)
              have hR208 := (Ex.tr hR195 hxwl201)
              have hR209 := (Ex.tr hR196 hxwl201)
              have hR210 := (Ex.tr hR197 hxwl201)
              have hR211 := (Ex.tr hR198 hxwl201)
              have hR212 := (Ex.tr hR199 hxwl201)
              have hR213 := (Ex.tr hR200 hxwl201)
              have hR214 := hxwl201
              refine CW.loop1 [(1, _), (2, _), (3, _)] ⟨rfl, rfl, rfl, trivial⟩ (fun (c : Nat) => [(11, .int .i64 (c : Int))]) (fun c w' => (c ≤ 144) ∧ Ex wl201 w') (fun c => 144 - c) (0) ⟨rfl, trivial⟩ ⟨by omega, (Ex.rfl_ _)⟩ ?_
              rintro c wl215 ⟨hc, hxwl215⟩
              refine CW.sub (S' := [(11, _), (1, _), (2, _), (3, _)]) ⟨rfl, rfl, rfl, rfl, trivial⟩ ?_
              refine CW.seq ?_
              refine CW.seq ?_
              refine CW.region ?_
              refine RG.vl rfl rfl rfl (Ev.move rfl rfl) ?_
              refine RG.vl rfl rfl rfl (Ev.lss rfl rfl rfl) ?_
              refine RG.done ?_
              refine QW.then_ ?_
              refine CW.condP rfl (fun hc216 => ?_) (fun hc216 => ?_)
              · refine CW.skip ?_
                refine QW.then_ ?_
                refine CW.seq ?_
                refine CW.block ?_
                refine CW.seq ?_
                refine CW.draw [] (.ex) 46 rfl mixed (fun wd217 hxwd217 => ?_)
                replace hxwl215 := Ex.tr hxwl215 hxwd217
                have hE218 := hxwd217
                refine AG.take 0 rfl (by kernel_rfl) (by kernel_rfl) rfl rfl rfl (fun wq hq => Ev.ldAgg rfl rfl Tryd.underlying24 rfl sz_24 rfl (((hb10.ext hxwl215).ext hq).cells)) ?_
                refine AG.takeW 1 rfl (by kernel_rfl) (by kernel_rfl) rfl rfl rfl (fun _ => Ev.move rfl rfl) ?_
                refine AG.takeW 2 rfl (by kernel_rfl) (by kernel_rfl) rfl rfl rfl (fun _ => (Ev.quoI rfl rfl rfl (by omega)).conv (congrArg (Value.int .i64) (show (c : Int) / 12 = ((c / 12 : Nat) : Int) by omega))) ?_
                refine AG.takeW 3 rfl (by kernel_rfl) (by kernel_rfl) rfl rfl rfl (fun _ => Ev.move rfl rfl) ?_
                refine AG.takeW 4 rfl (by kernel_rfl) (by kernel_rfl) rfl rfl rfl (fun _ => (Ev.quoI rfl rfl rfl (by omega)).conv (congrArg (Value.int .i64) (show (c : Int) / 12 = ((c / 12 : Nat) : Int) by omega))) ?_
                refine AG.takeW 5 rfl (by kernel_rfl) (by kernel_rfl) rfl rfl rfl (fun _ => (Ev.addI rfl rfl rfl (by omega)).conv (congrArg (Value.int .i64) (show ((c / 12 : Nat) : Int) + 1 = ((c / 12 + 1 : Nat) : Int) by omega))) ?_
                refine AG.takeW 6 rfl (by kernel_rfl) (by kernel_rfl) rfl rfl rfl (fun _ => Ev.cutStr (i := c / 12) (j := c / 12 + 1) rfl rfl Tryd.underlying9 rfl rfl (by omega) (by show _ ≤ 12; omega)) ?_
                refine AG.takeW 7 rfl (by kernel_rfl) (by kernel_rfl) rfl rfl rfl (fun _ => Ev.move rfl rfl) ?_
                refine AG.takeW 8 rfl (by kernel_rfl) (by kernel_rfl) rfl rfl rfl (fun _ => (Ev.remI rfl rfl rfl (by omega)).conv (congrArg (Value.int .i64) (show (c : Int) % 12 = ((c % 12 : Nat) : Int) by omega))) ?_
                refine AG.takeW 9 rfl (by kernel_rfl) (by kernel_rfl) rfl rfl rfl (fun _ => Ev.move rfl rfl) ?_
                refine AG.takeW 10 rfl (by kernel_rfl) (by kernel_rfl) rfl rfl rfl (fun _ => (Ev.remI rfl rfl rfl (by omega)).conv (congrArg (Value.int .i64) (show (c : Int) % 12 = ((c % 12 : Nat) : Int) by omega))) ?_
                refine AG.takeW 11 rfl (by kernel_rfl) (by kernel_rfl) rfl rfl rfl (fun _ => (Ev.addI rfl rfl rfl (by omega)).conv (congrArg (Value.int .i64) (show ((c % 12 : Nat) : Int) + 1 = ((c % 12 + 1 : Nat) : Int) by omega))) ?_
                refine AG.takeW 12 rfl (by kernel_rfl) (by kernel_rfl) rfl rfl rfl (fun _ => Ev.cutStr (i := c % 12) (j := c % 12 + 1) rfl rfl Tryd.underlying9 rfl rfl (by omega) (by show _ ≤ 12; omega)) ?_
                refine AG.takeW 13 rfl (by kernel_rfl) (by kernel_rfl) rfl rfl rfl (fun _ => Ev.cat rfl rfl rfl (Nat.le_trans (Nat.add_le_add x12 x12) (by decide))) ?_
                refine AG.only 14 rfl (by kernel_rfl) ?_
                refine RG.call rfl rfl rfl rfl rfl rfl rfl en_24 (textsB_ret k _ ws _ _ (hws.ext hxwl215) (by omega) (Nat.le_trans (x2 x12 x12) (by decide))) ?_
                rintro _ w220 ⟨rfl, hx220⟩
                replace hxwl215 := Ex.tr hxwl215 hx220
                replace hE218 := Ex.tr hE218 hx220
                have hE221 := hx220
                refine RG.done ?_
                refine QW.an (fun _ => hE221) ?_
                refine AG.takeW 15 rfl (by kernel_rfl) (by kernel_rfl) rfl rfl rfl (fun _ => Ev.notF rfl rfl) ?_
                refine AG.takeW 16 rfl (by kernel_rfl) (by kernel_rfl) rfl rfl rfl (fun _ => Ev.move rfl rfl) ?_
                refine AG.take 17 rfl (by kernel_rfl) (by kernel_rfl) rfl rfl rfl (fun wq hq => Ev.ldAgg rfl rfl Tryd.underlying24 rfl sz_24 rfl (((hb10.ext hxwl215).ext hq).cells)) ?_
                refine AG.takeW 18 rfl (by kernel_rfl) (by kernel_rfl) rfl rfl rfl (fun _ => Ev.move rfl rfl) ?_
                refine AG.takeW 19 rfl (by kernel_rfl) (by kernel_rfl) rfl rfl rfl (fun _ => (Ev.quoI rfl rfl rfl (by omega)).conv (congrArg (Value.int .i64) (show (c : Int) / 12 = ((c / 12 : Nat) : Int) by omega))) ?_
                refine AG.takeW 20 rfl (by kernel_rfl) (by kernel_rfl) rfl rfl rfl (fun _ => Ev.move rfl rfl) ?_
                refine AG.takeW 21 rfl (by kernel_rfl) (by kernel_rfl) rfl rfl rfl (fun _ => (Ev.quoI rfl rfl rfl (by omega)).conv (congrArg (Value.int .i64) (show (c : Int) / 12 = ((c / 12 : Nat) : Int) by omega))) ?_
                refine AG.takeW 22 rfl (by kernel_rfl) (by kernel_rfl) rfl rfl rfl (fun _ => (Ev.addI rfl rfl rfl (by omega)).conv (congrArg (Value.int .i64) (show ((c / 12 : Nat) : Int) + 1 = ((c / 12 + 1 : Nat) : Int) by omega))) ?_
                refine AG.takeW 23 rfl (by kernel_rfl) (by kernel_rfl) rfl rfl rfl (fun _ => Ev.cutStr (i := c / 12) (j := c / 12 + 1) rfl rfl Tryd.underlying9 rfl rfl (by omega) (by show _ ≤ 12; omega)) ?_
                refine AG.takeW 24 rfl (by kernel_rfl) (by kernel_rfl) rfl rfl rfl (fun _ => Ev.cat rfl rfl rfl (Nat.le_trans (Nat.add_le_add (Nat.le_refl 1) x12) (by decide))) ?_
                refine AG.takeW 25 rfl (by kernel_rfl) (by kernel_rfl) rfl rfl rfl (fun _ => Ev.move rfl rfl) ?_
                refine AG.takeW 26 rfl (by kernel_rfl) (by kernel_rfl) rfl rfl rfl (fun _ => (Ev.remI rfl rfl rfl (by omega)).conv (congrArg (Value.int .i64) (show (c : Int) % 12 = ((c % 12 : Nat) : Int) by omega))) ?_
                refine AG.takeW 27 rfl (by kernel_rfl) (by kernel_rfl) rfl rfl rfl (fun _ => Ev.move rfl rfl) ?_
                refine AG.takeW 28 rfl (by kernel_rfl) (by kernel_rfl) rfl rfl rfl (fun _ => (Ev.remI rfl rfl rfl (by omega)).conv (congrArg (Value.int .i64) (show (c : Int) % 12 = ((c % 12 : Nat) : Int) by omega))) ?_
                refine AG.takeW 29 rfl (by kernel_rfl) (by kernel_rfl) rfl rfl rfl (fun _ => (Ev.addI rfl rfl rfl (by omega)).conv (congrArg (Value.int .i64) (show ((c % 12 : Nat) : Int) + 1 = ((c % 12 + 1 : Nat) : Int) by omega))) ?_
                refine AG.takeW 30 rfl (by kernel_rfl) (by kernel_rfl) rfl rfl rfl (fun _ => Ev.cutStr (i := c % 12) (j := c % 12 + 1) rfl rfl Tryd.underlying9 rfl rfl (by omega) (by show _ ≤ 12; omega)) ?_
                refine AG.takeW 31 rfl (by kernel_rfl) (by kernel_rfl) rfl rfl rfl (fun _ => Ev.cat rfl rfl rfl (Nat.le_trans (Nat.add_le_add (x2 (Nat.le_refl 1) x12) x12) (by decide))) ?_
                refine AG.only 32 rfl (by kernel_rfl) ?_
                refine RG.call rfl rfl rfl rfl rfl rfl rfl en_24 (textsB_ret k _ ws _ _ (hws.ext hxwl215) (by omega) (Nat.le_trans (x2 (x2 (Nat.le_refl 1) x12) x12) (by decide))) ?_
                rintro _ w223 ⟨rfl, hx223⟩
                replace hxwl215 := Ex.tr hxwl215 hx223
                replace hE218 := Ex.tr hE218 hx223
                replace hE221 := Ex.tr hE221 hx223
                have hE224 := hx223
                refine RG.done ?_
                refine QW.an (fun _ => hE224) ?_
                refine AG.takeW 33 rfl (by kernel_rfl) (by kernel_rfl) rfl rfl rfl (fun _ => Ev.notF rfl rfl) ?_
                refine AG.takeW 34 rfl (by kernel_rfl) (by kernel_rfl) rfl rfl rfl (fun _ => Ev.pickF rfl rfl rfl) ?_
                refine AG.takeW 35 rfl (by kernel_rfl) (by kernel_rfl) rfl rfl rfl (fun _ => Ev.move rfl rfl) ?_
                refine AG.take 36 rfl (by kernel_rfl) (by kernel_rfl) rfl rfl rfl (fun wq hq => Ev.ldAgg rfl rfl Tryd.underlying24 rfl sz_24 rfl (((hb10.ext hxwl215).ext hq).cells)) ?_
                refine AG.takeW 37 rfl (by kernel_rfl) (by kernel_rfl) rfl rfl rfl (fun _ => Ev.move rfl rfl) ?_
                refine AG.takeW 38 rfl (by kernel_rfl) (by kernel_rfl) rfl rfl rfl (fun _ => (Ev.remI rfl rfl rfl (by omega)).conv (congrArg (Value.int .i64) (show (c : Int) % 12 = ((c % 12 : Nat) : Int) by omega))) ?_
                refine AG.takeW 39 rfl (by kernel_rfl) (by kernel_rfl) rfl rfl rfl (fun _ => Ev.move rfl rfl) ?_
                refine AG.takeW 40 rfl (by kernel_rfl) (by kernel_rfl) rfl rfl rfl (fun _ => (Ev.remI rfl rfl rfl (by omega)).conv (congrArg (Value.int .i64) (show (c : Int) % 12 = ((c % 12 : Nat) : Int) by omega))) ?_
                refine AG.takeW 41 rfl (by kernel_rfl) (by kernel_rfl) rfl rfl rfl (fun _ => (Ev.addI rfl rfl rfl (by omega)).conv (congrArg (Value.int .i64) (show ((c % 12 : Nat) : Int) + 1 = ((c % 12 + 1 : Nat) : Int) by omega))) ?_
                refine AG.takeW 42 rfl (by kernel_rfl) (by kernel_rfl) rfl rfl rfl (fun _ => Ev.cutStr (i := c % 12) (j := c % 12 + 1) rfl rfl Tryd.underlying9 rfl rfl (by omega) (by show _ ≤ 12; omega)) ?_
                refine AG.only 43 rfl (by kernel_rfl) ?_
                refine RG.call rfl rfl rfl rfl rfl rfl rfl en_24 (textsB_ret k _ ws _ _ (hws.ext hxwl215) (by omega) (Nat.le_trans x12 (by decide))) ?_
                rintro _ w226 ⟨rfl, hx226⟩
                replace hxwl215 := Ex.tr hxwl215 hx226
                replace hE218 := Ex.tr hE218 hx226
                replace hE221 := Ex.tr hE221 hx226
                replace hE224 := Ex.tr hE224 hx226
                have hE227 := hx226
                refine RG.done ?_
                refine QW.an (fun _ => hE227) ?_
                refine AG.takeW 44 rfl (by kernel_rfl) (by kernel_rfl) rfl rfl rfl (fun _ => Ev.notF rfl rfl) ?_
                refine AG.takeW 45 rfl (by kernel_rfl) (by kernel_rfl) rfl rfl rfl (fun _ => Ev.pickF rfl rfl rfl) ?_
                refine AG.done (by kernel_rfl) ?_
                refine QW.sub (S' := [(1, _), (2, _), (3, _), (11, _), (128, _)]) ⟨rfl, rfl, rfl, rfl, rfl, trivial⟩ ?_
                refine QW.then_ ?_
                refine CW.condF rfl ?_
                refine CW.skip ?_
                refine QW.blockN ?_
                refine QW.then_ ?_
                refine CW.region ?_
                refine RG.vl rfl rfl rfl (Ev.move rfl rfl) ?_
                refine RG.vl rfl rfl rfl (Ev.addI rfl rfl rfl (by omega)) ?_
                refine RG.vl rfl rfl rfl (Ev.assign rfl rfl) ?_
                refine RG.done ?_
                refine QW.round1 (c + 1) ⟨rfl, trivial⟩ ⟨rfl, rfl, rfl, trivial⟩ ⟨by omega, hxwl215⟩ (by omega)
              · refine CW.exit ?_
                refine QW.thenExit ?_
                refine QW.thenExit ?_
                refine QW.blockHit ?_
                refine QW.blockN ?_
                refine QW.then_ ?_
                refine CW.region ?_
                refine RG.vl rfl rfl rfl (Ev.move rfl rfl) ?_
                refine RG.vl rfl rfl rfl (Ev.addI rfl rfl rfl (by omega)) ?_
                refine RG.vl rfl rfl rfl (Ev.assign rfl rfl) ?_
                refine RG.done ?_
                refine QW.round1 (x + 1) ⟨rfl, trivial⟩ ⟨rfl, trivial⟩ ⟨⟨by omega, by omega⟩, (Ex.tr hR208 hxwl215)⟩ (by omega)
    · refine CW.exit ?_
      refine QW.thenExit ?_
      refine QW.thenExit ?_
      refine QW.blockHit ?_
      refine QW.blockN ?_
      refine QW.then_ ?_
      refine CW.region ?_
      refine RG.vl rfl rfl rfl (Ev.move rfl rfl) ?_
      refine RG.vl rfl rfl rfl (Ev.addI rfl rfl rfl (by omega)) ?_
      refine RG.vl rfl rfl rfl (Ev.assign rfl rfl) ?_
      refine RG.done ?_
      refine QW.round1 (k + 1) ⟨rfl, trivial⟩ trivial ⟨by omega, (Ex.tr hR3 hxwl4)⟩ (by omega)
  · refine CW.exit ?_
    refine QW.thenExit ?_
    refine QW.thenExit ?_
    refine QW.blockHit ?_
    refine QW.then_ ?_
    refine CW.seq ?_
    refine CW.region ?_
    refine RG.call rfl rfl rfl rfl rfl rfl rfl en_12 (awake_ret _) ?_
    rintro _ w228 ⟨rfl, hx228⟩
    replace hxwl1 := Ex.tr hxwl1 hx228
    have hE229 := hx228
    refine RG.vl rfl rfl rfl (Ev.assign rfl rfl) ?_
    refine RG.done ?_
    refine QW.then_ ?_
    refine CW.ret ?_
    refine QW.ret1 rfl rfl ?_
    have hB := (Ex.tr hB0 hxwl1)
    exact ⟨rfl, hB⟩

end Go.Proofs.YtnhkhpnkhkagaaaDoor
