/- Walks (QF). Written by program. -/
import Derived.Test.YtehlnkhbbnddmaaT
import Derived.Test.YtehlnkhbbnddmaaQE
import Derived.Test.YtehlnkhbbnddmaaOX
import Derived.Test.YtehlnkhbbnddmaaOH
namespace Go.Proofs.Ytehlnkhbbnddmaa
open Go.RowKit
set_option maxRecDepth 100000 in
set_option maxHeartbeats 8000000 in
theorem foldSmall_ret  (w : World)  :
    Ret Try.prog 6 [] w (fun v w' => v = .bool true ∧ Ex w w') := by
  have ht40 := tab40
  have hB0 : Ex w w := Ex.rfl_ _
  refine Ret.of Try.func6 rfl Try.ntmps6 rfl ?_
  refine CW.seq ?_
  refine CW.region ?_
  refine RG.vl rfl rfl rfl (Ev.assign rfl rfl) ?_
  refine RG.done ?_
  refine QW.then_ ?_
  refine CW.seq ?_
  refine CW.seq ?_
  refine CW.region ?_
  refine RG.vl rfl rfl rfl (Ev.assign rfl rfl) ?_
  refine RG.done ?_
  refine QW.then_ ?_
  refine CW.block ?_
  refine CW.loop1 [] trivial (fun (i : Nat) => [(1, .int .i64 (i : Int))]) (fun i w' => (i ≤ 65536) ∧ Ex w w') (fun i => 65536 - i) (0) ⟨rfl, trivial⟩ ⟨Nat.zero_le _, hB0⟩ ?_
  rintro i wl1 ⟨hi, hxwl1⟩
  refine CW.sub (S' := [(1, _)]) ⟨rfl, trivial⟩ ?_
  refine CW.seq ?_
  refine CW.seq ?_
  refine CW.region ?_
  refine RG.vl rfl rfl rfl (Ev.move rfl rfl) ?_
  refine RG.vl rfl rfl rfl (Ev.lss rfl rfl rfl) ?_
  refine RG.done ?_
  refine QW.then_ ?_
  refine CW.condP rfl (fun hc2 => ?_) (fun hc2 => ?_)
  · refine CW.skip ?_
    refine QW.then_ ?_
    refine CW.seq ?_
    refine CW.block ?_
    refine CW.seq ?_
    refine CW.region ?_
    refine RG.vl rfl rfl rfl (Ev.move rfl rfl) ?_
    refine RG.vl rfl rfl rfl ((Ev.toInt rfl rfl Try.underlying3 Try.underlying5).conv (congrArg (Value.int .u8) (show IntKind.u8.wrap ((i : Nat) : Int) = ((UInt8.ofNat (i % 256)).toNat : Int) by rw [IntKind.wrap_u8, UInt8.toNat_ofNat_of_lt' (show i % 256 < 256 from Nat.mod_lt _ (by decide))]; omega))) ?_
    refine RG.vl rfl rfl rfl (Ev.move rfl rfl) ?_
    refine RG.vl rfl rfl rfl (Ev.shrN (p := i) (q := 8) rfl rfl rfl (by show 8 ≤ 64; decide)) ?_
    refine RG.vl rfl rfl rfl ((Ev.toInt rfl rfl Try.underlying3 Try.underlying5).conv (congrArg (Value.int .u8) (show IntKind.u8.wrap ((i >>> 8 : Nat) : Int) = ((UInt8.ofNat (i >>> 8 % 256)).toNat : Int) by rw [IntKind.wrap_u8, UInt8.toNat_ofNat_of_lt' (show i >>> 8 % 256 < 256 from Nat.mod_lt _ (by decide))]; omega))) ?_
    refine RG.litO (os := [.tmp 13, .tmp 16]) (enc := encB) ([UInt8.ofNat (i % 256), UInt8.ofNat ((i >>> 8) % 256)]) rfl rfl rfl rfl rfl rfl rfl Try.underlying23 inf_5 rfl rfl rfl rfl rfl encB_len rfl rfl (fun v3 wk4 hxwk4 hown5 hnew6 => ?_)
    replace hxwl1 := Ex.tr hxwl1 hxwk4
    have hE7 := hxwk4
    refine RG.vl rfl rfl rfl (Ev.toStr rfl rfl Try.underlying23 Try.underlying5 Try.underlying9 ((Own.rdl hown5 encB_len))) ?_
    refine RG.vl rfl rfl rfl (Ev.assign rfl rfl) ?_
    refine RG.done ?_
    refine QW.then_ ?_
    refine CW.seq ?_
    obtain ⟨S, hS⟩ : ∃ S : List UInt8, S = [UInt8.ofNat (i % 256), UInt8.ofNat ((i >>> 8) % 256)] := ⟨_, rfl⟩
    have hSl : S.length = 2 := by rw [hS]; rfl
    have hSs := sbytes S
    rw [← hS]
    refine CW.region ?_
    refine RG.vl rfl rfl rfl (Ev.move rfl rfl) ?_
    refine RG.call rfl rfl rfl rfl rfl rfl rfl en_18 (folds_ret S _ (by omega)) ?_
    rintro _ w8 ⟨rfl, hx8⟩
    replace hxwl1 := Ex.tr hxwl1 hx8
    replace hE7 := Ex.tr hE7 hx8
    have hE9 := hx8
    refine RG.vl rfl rfl rfl (Ev.notF rfl rfl) ?_
    refine RG.vl rfl rfl rfl (Ev.move rfl rfl) ?_
    refine RG.vl rfl rfl rfl (Ev.move rfl rfl) ?_
    refine RG.vl rfl rfl rfl (Ev.remI rfl rfl rfl (by omega)) ?_
    refine RG.vl rfl rfl rfl (Ev.eqI rfl rfl rfl) ?_
    refine RG.vl rfl rfl rfl (Ev.move rfl rfl) ?_
    refine RG.split (d := 26) rfl (fun hg10 => ?_) (fun hg10 => ?_)
    · refine RG.vl rfl rfl rfl (Ev.move rfl rfl) ?_
      refine RG.vl rfl rfl rfl ((Ev.cat rfl rfl rfl (by rw [sbytes, sbytes]; show 1 + _ ≤ _; omega)).conv (congrArg Value.string (bx_cat [120] S))) ?_
      refine RG.vl rfl rfl rfl ((Ev.cat rfl rfl rfl (by rw [sbytes, sbytes, List.length_append]; show 1 + _ + 1 ≤ _; omega)).conv (congrArg Value.string (bx_cat _ [55]))) ?_
      refine RG.call rfl rfl rfl rfl rfl rfl rfl en_18 (folds_ret ([120] ++ S ++ [55]) _ (by simp [hSl])) ?_
      rintro _ w11 ⟨rfl, hx11⟩
      replace hxwl1 := Ex.tr hxwl1 hx11
      replace hE7 := Ex.tr hE7 hx11
      replace hE9 := Ex.tr hE9 hx11
      have hE12 := hx11
      refine RG.vl rfl rfl rfl (Ev.notF rfl rfl) ?_
      refine RG.vl rfl rfl rfl (Ev.move rfl rfl) ?_
      refine RG.vl rfl rfl rfl (Ev.move rfl rfl) ?_
      refine RG.vl rfl rfl rfl (Ev.move rfl rfl) ?_
      refine RG.vl rfl rfl rfl ((Ev.cat rfl rfl rfl (by rw [sbytes]; omega)).conv (congrArg Value.string (bx_cat S S))) ?_
      refine RG.call rfl rfl rfl rfl rfl rfl rfl en_18 (folds_ret (S ++ S) _ (by simp [hSl])) ?_
      rintro _ w13 ⟨rfl, hx13⟩
      replace hxwl1 := Ex.tr hxwl1 hx13
      replace hE7 := Ex.tr hE7 hx13
      replace hE9 := Ex.tr hE9 hx13
      replace hE12 := Ex.tr hE12 hx13
      have hE14 := hx13
      refine RG.vl rfl rfl rfl (Ev.notF rfl rfl) ?_
      refine RG.vl rfl rfl rfl (Ev.pickF rfl rfl rfl) ?_
      refine RG.vl rfl rfl rfl (Ev.pickT rfl rfl rfl) ?_
      refine RG.vl rfl rfl rfl (Ev.pickF rfl rfl rfl) ?_
      refine RG.done ?_
      refine QW.sub (S' := [(1, _), (40, _)]) ⟨rfl, rfl, trivial⟩ ?_
      refine QW.then_ ?_
      refine CW.condF rfl ?_
      refine CW.skip ?_
      refine QW.blockN ?_
      refine QW.then_ ?_
      refine CW.region ?_
      refine RG.vl rfl rfl rfl (Ev.move rfl rfl) ?_
      refine RG.vl rfl rfl rfl (Ev.addI rfl rfl rfl (by omega)) ?_
      refine RG.vl rfl rfl rfl (Ev.assign rfl rfl) ?_
      refine RG.done ?_
      refine QW.round1 (i + 1) ⟨rfl, trivial⟩ trivial ⟨by omega, (Ex.tr hB0 hxwl1)⟩ (by omega)
    · refine RG.pass rfl rfl rfl ?_
      refine RG.pass rfl rfl rfl ?_
      refine RG.pass rfl rfl rfl ?_
      refine RG.pass rfl rfl rfl ?_
      refine RG.pass rfl rfl rfl ?_
      refine RG.pass rfl rfl rfl ?_
      refine RG.pass rfl rfl rfl ?_
      refine RG.pass rfl rfl rfl ?_
      refine RG.pass rfl rfl rfl ?_
      refine RG.pass rfl rfl rfl ?_
      refine RG.pass rfl rfl rfl ?_
      refine RG.pass rfl rfl rfl ?_
      refine RG.vl rfl rfl rfl (Ev.pickF rfl rfl rfl) ?_
      refine RG.vl rfl rfl rfl (Ev.pickF rfl rfl rfl) ?_
      refine RG.done ?_
      refine QW.sub (S' := [(1, _), (40, _)]) ⟨rfl, rfl, trivial⟩ ?_
      refine QW.then_ ?_
      refine CW.condF rfl ?_
      refine CW.skip ?_
      refine QW.blockN ?_
      refine QW.then_ ?_
      refine CW.region ?_
      refine RG.vl rfl rfl rfl (Ev.move rfl rfl) ?_
      refine RG.vl rfl rfl rfl (Ev.addI rfl rfl rfl (by omega)) ?_
      refine RG.vl rfl rfl rfl (Ev.assign rfl rfl) ?_
      refine RG.done ?_
      refine QW.round1 (i + 1) ⟨rfl, trivial⟩ trivial ⟨by omega, (Ex.tr hB0 hxwl1)⟩ (by omega)
  · refine CW.exit ?_
    refine QW.thenExit ?_
    refine QW.thenExit ?_
    refine QW.blockHit ?_
    refine QW.then_ ?_
    refine CW.seq ?_
    refine CW.region ?_
    refine RG.call rfl rfl rfl rfl rfl rfl rfl en_13 (table_ret _) ?_
    have hpre15 := (Ex.tr hB0 hxwl1)
    rintro tv w15 ⟨htv, hx15⟩
    replace htv := Own.low (B' := w.heap.size) htv (by have := (Ex.tr hB0 hxwl1).size; omega)
    replace hxwl1 := Ex.tr hxwl1 hx15
    have hE16 := hx15
    refine RG.vl rfl rfl rfl (Ev.assign rfl rfl) ?_
    refine RG.done ?_
    refine QW.then_ ?_
    refine CW.seq ?_
    refine CW.seq ?_
    refine CW.region ?_
    refine RG.vl rfl rfl rfl (Ev.move rfl rfl) ?_
    refine RG.call rfl rfl rfl rfl rfl rfl rfl en_19 (lsame_ret _ _ ((htv.rdl Rw.c_len))) ?_
    rintro _ w17 ⟨rfl, hx17⟩
    replace hxwl1 := Ex.tr hxwl1 hx17
    replace hE16 := Ex.tr hE16 hx17
    have hE18 := hx17
    refine RG.vl rfl rfl rfl (Ev.notF rfl rfl) ?_
    refine RG.done ?_
    refine QW.then_ ?_
    refine CW.condF rfl ?_
    refine CW.skip ?_
    refine QW.then_ ?_
    refine CW.seq ?_
    refine CW.seq ?_
    refine CW.region ?_
    refine RG.vl rfl rfl rfl (Ev.assign rfl rfl) ?_
    refine RG.done ?_
    refine QW.then_ ?_
    refine CW.block ?_
    replace htv := (Own.ext htv hE18)
    have hR19 := (Ex.tr hB0 hxwl1)
    have hR20 := hE16
    have hR21 := hE18
    refine CW.loop1 [(3, _)] ⟨rfl, trivial⟩ (fun (i : Nat) => [(4, .int .i64 (i : Int))]) (fun i w' => (i ≤ tab.length) ∧ Ex w17 w') (fun i => tab.length - i) (0) ⟨rfl, trivial⟩ ⟨Nat.zero_le _, (Ex.rfl_ _)⟩ ?_
    rintro i wl22 ⟨hi, hxwl22⟩
    refine CW.sub (S' := [(4, _), (3, _)]) ⟨rfl, rfl, trivial⟩ ?_
    refine CW.seq ?_
    refine CW.seq ?_
    refine CW.region ?_
    refine RG.vl rfl rfl rfl (Ev.move rfl rfl) ?_
    refine RG.vl rfl rfl rfl (Ev.move rfl rfl) ?_
    refine RG.vl rfl rfl rfl (Ev.lenL rfl rfl rfl Try.underlying27 (((Own.ext htv hxwl22).rdl Rw.c_len))) ?_
    refine RG.vl rfl rfl rfl (Ev.lss rfl rfl rfl) ?_
    refine RG.done ?_
    refine QW.then_ ?_
    refine CW.condP rfl (fun hc23 => ?_) (fun hc23 => ?_)
    · refine CW.skip ?_
      refine QW.then_ ?_
      refine CW.seq ?_
      refine CW.block ?_
      refine CW.seq ?_
      refine CW.seq ?_
      refine CW.region ?_
      refine RG.vl rfl rfl rfl (Ev.assign rfl rfl) ?_
      refine RG.done ?_
      refine QW.then_ ?_
      refine CW.block ?_
      replace htv := (Own.ext htv hxwl22)
      have hR24 := (Ex.tr hR19 hxwl22)
      have hR25 := (Ex.tr hR20 hxwl22)
      have hR26 := (Ex.tr hR21 hxwl22)
      have hR27 := hxwl22
      refine CW.loop1 [(3, _), (4, _)] ⟨rfl, rfl, trivial⟩ (fun (k : Nat) => [(5, .int .i64 (k : Int))]) (fun k w' => (k ≤ tab.length) ∧ Ex wl22 w') (fun k => tab.length - k) (0) ⟨rfl, trivial⟩ ⟨Nat.zero_le _, (Ex.rfl_ _)⟩ ?_
      rintro k wl28 ⟨hk, hxwl28⟩
      refine CW.sub (S' := [(5, _), (3, _), (4, _)]) ⟨rfl, rfl, rfl, trivial⟩ ?_
      refine CW.seq ?_
      refine CW.seq ?_
      refine CW.region ?_
      refine RG.vl rfl rfl rfl (Ev.move rfl rfl) ?_
      refine RG.vl rfl rfl rfl (Ev.move rfl rfl) ?_
      refine RG.vl rfl rfl rfl (Ev.lenL rfl rfl rfl Try.underlying27 (((Own.ext htv hxwl28).rdl Rw.c_len))) ?_
      refine RG.vl rfl rfl rfl (Ev.lss rfl rfl rfl) ?_
      refine RG.done ?_
      refine QW.then_ ?_
      refine CW.condP rfl (fun hc29 => ?_) (fun hc29 => ?_)
      · refine CW.skip ?_
        refine QW.then_ ?_
        refine CW.seq ?_
        refine CW.block ?_
        refine CW.seq ?_
        refine CW.region ?_
        refine RG.vl rfl rfl rfl (Ev.assign rfl rfl) ?_
        refine RG.done ?_
        refine QW.then_ ?_
        refine CW.block ?_
        replace htv := (Own.ext htv hxwl28)
        have hR30 := (Ex.tr hR24 hxwl28)
        have hR31 := (Ex.tr hR25 hxwl28)
        have hR32 := (Ex.tr hR26 hxwl28)
        have hR33 := (Ex.tr hR27 hxwl28)
        have hR34 := hxwl28
        refine CW.loop1 [(3, _), (4, _), (5, _)] ⟨rfl, rfl, rfl, trivial⟩ (fun (q : Nat) => [(6, .int .u8 (q : Int))]) (fun q w' => (q ≤ 8) ∧ Ex wl28 w') (fun q => 8 - q) (0) ⟨rfl, trivial⟩ ⟨Nat.zero_le _, (Ex.rfl_ _)⟩ ?_
        rintro q wl35 ⟨hq, hxwl35⟩
        refine CW.sub (S' := [(6, _), (3, _), (4, _), (5, _)]) ⟨rfl, rfl, rfl, rfl, trivial⟩ ?_
        refine CW.seq ?_
        refine CW.seq ?_
        refine CW.region ?_
        refine RG.vl rfl rfl rfl (Ev.move rfl rfl) ?_
        refine RG.vl rfl rfl rfl (Ev.lss rfl rfl rfl) ?_
        refine RG.done ?_
        refine QW.then_ ?_
        refine CW.condP rfl (fun hc36 => ?_) (fun hc36 => ?_)
        · refine CW.skip ?_
          refine QW.then_ ?_
          refine CW.seq ?_
          refine CW.block ?_
          refine CW.seq ?_
          obtain ⟨r1, hr1⟩ : ∃ r, tab[i]? = some r := ⟨_, List.getElem?_eq_getElem (by omega)⟩
          have hr1k := tab_k r1 (List.mem_of_getElem? hr1)
          obtain ⟨r2, hr2⟩ : ∃ r, tab[k]? = some r := ⟨_, List.getElem?_eq_getElem (by omega)⟩
          have hr2k := tab_k r2 (List.mem_of_getElem? hr2)
          refine CW.draw [] (.ex) 58 rfl mixed (fun wd37 hxwd37 => ?_)
          replace hxwl35 := Ex.tr hxwl35 hxwd37
          have hE38 := hxwd37
          refine AG.takeW 0 rfl (by kernel_rfl) (by kernel_rfl) rfl rfl rfl (fun _ => Ev.move rfl rfl) ?_
          refine AG.takeW 1 rfl (by kernel_rfl) (by kernel_rfl) rfl rfl rfl (fun _ => Ev.move rfl rfl) ?_
          refine AG.takeW 2 rfl (by kernel_rfl) (by kernel_rfl) rfl rfl rfl (fun _ => Ev.move rfl rfl) ?_
          refine AG.idxO _ 3 rfl (by kernel_rfl) (by kernel_rfl) rfl rfl rfl rfl rfl rfl Try.underlying27 sz_30 Rw.c_len ((Own.ext htv hxwl35)) (hr1) (fun g40 hg40 hBg40 hp39b hp39 => ?_)
          refine AG.takeW 4 rfl (by kernel_rfl) (by kernel_rfl) rfl rfl rfl (fun _ => Ev.fld rfl rfl fld_30_1) ?_
          refine AG.take 5 rfl (by kernel_rfl) (by kernel_rfl) rfl rfl rfl (fun wq hq => Ev.ldAt rfl rfl Try.underlying9 rfl (hp39.ext hq hp39b) (rfl)) ?_
          refine AG.takeW 6 rfl (by kernel_rfl) (by kernel_rfl) rfl rfl rfl (fun _ => Ev.move rfl rfl) ?_
          refine AG.takeW 7 rfl (by kernel_rfl) (by kernel_rfl) rfl rfl rfl (fun _ => Ev.move rfl rfl) ?_
          refine AG.idxO _ 8 rfl (by kernel_rfl) (by kernel_rfl) rfl rfl rfl rfl rfl rfl Try.underlying27 sz_30 Rw.c_len ((Own.ext htv hxwl35)) (hr2) (fun g42 hg42 hBg42 hp41b hp41 => ?_)
          refine AG.takeW 9 rfl (by kernel_rfl) (by kernel_rfl) rfl rfl rfl (fun _ => Ev.fld rfl rfl fld_30_2) ?_
          refine AG.take 10 rfl (by kernel_rfl) (by kernel_rfl) rfl rfl rfl (fun wq hq => Ev.ldAt rfl rfl Try.underlying9 rfl (hp41.ext hq hp41b) (rfl)) ?_
          refine AG.only 11 rfl (by kernel_rfl) ?_
          refine RG.call rfl rfl rfl rfl rfl rfl rfl en_20 (lwords_ret q r1.lo r2.sh _) ?_
          rintro _ w44 ⟨rfl, hx44⟩
          replace hxwl35 := Ex.tr hxwl35 hx44
          replace hE38 := Ex.tr hE38 hx44
          have hE45 := hx44
          refine RG.done ?_
          refine QW.an (fun _ => hE45) ?_
          refine AG.takeW 12 rfl (by kernel_rfl) (by kernel_rfl) rfl rfl rfl (fun _ => Ev.notF rfl rfl) ?_
          refine AG.takeW 13 rfl (by kernel_rfl) (by kernel_rfl) rfl rfl rfl (fun _ => Ev.move rfl rfl) ?_
          refine AG.takeW 14 rfl (by kernel_rfl) (by kernel_rfl) rfl rfl rfl (fun _ => Ev.move rfl rfl) ?_
          refine AG.takeW 15 rfl (by kernel_rfl) (by kernel_rfl) rfl rfl rfl (fun _ => Ev.move rfl rfl) ?_
          refine AG.takeW 16 rfl (by kernel_rfl) (by kernel_rfl) rfl rfl rfl (fun _ => Ev.move rfl rfl) ?_
          refine AG.idxO _ 17 rfl (by kernel_rfl) (by kernel_rfl) rfl rfl rfl rfl rfl rfl Try.underlying27 sz_30 Rw.c_len ((Own.ext htv hxwl35)) (hr1) (fun g47 hg47 hBg47 hp46b hp46 => ?_)
          refine AG.takeW 18 rfl (by kernel_rfl) (by kernel_rfl) rfl rfl rfl (fun _ => Ev.fld rfl rfl fld_30_2) ?_
          refine AG.take 19 rfl (by kernel_rfl) (by kernel_rfl) rfl rfl rfl (fun wq hq => Ev.ldAt rfl rfl Try.underlying9 rfl (hp46.ext hq hp46b) (rfl)) ?_
          refine AG.takeW 20 rfl (by kernel_rfl) (by kernel_rfl) rfl rfl rfl (fun _ => Ev.move rfl rfl) ?_
          refine AG.takeW 21 rfl (by kernel_rfl) (by kernel_rfl) rfl rfl rfl (fun _ => Ev.move rfl rfl) ?_
          refine AG.idxO _ 22 rfl (by kernel_rfl) (by kernel_rfl) rfl rfl rfl rfl rfl rfl Try.underlying27 sz_30 Rw.c_len ((Own.ext htv hxwl35)) (hr2) (fun g49 hg49 hBg49 hp48b hp48 => ?_)
          refine AG.takeW 23 rfl (by kernel_rfl) (by kernel_rfl) rfl rfl rfl (fun _ => Ev.fld rfl rfl fld_30_2) ?_
          refine AG.take 24 rfl (by kernel_rfl) (by kernel_rfl) rfl rfl rfl (fun wq hq => Ev.ldAt rfl rfl Try.underlying9 rfl (hp48.ext hq hp48b) (rfl)) ?_
          refine AG.only 25 rfl (by kernel_rfl) ?_
          refine RG.call rfl rfl rfl rfl rfl rfl rfl en_20 (lwords_ret q r1.sh r2.sh _) ?_
          rintro _ w51 ⟨rfl, hx51⟩
          replace hxwl35 := Ex.tr hxwl35 hx51
          replace hE38 := Ex.tr hE38 hx51
          replace hE45 := Ex.tr hE45 hx51
          have hE52 := hx51
          refine RG.done ?_
          refine QW.an (fun _ => hE52) ?_
          refine AG.takeW 26 rfl (by kernel_rfl) (by kernel_rfl) rfl rfl rfl (fun _ => Ev.notF rfl rfl) ?_
          refine AG.takeW 27 rfl (by kernel_rfl) (by kernel_rfl) rfl rfl rfl (fun _ => Ev.pickF rfl rfl rfl) ?_
          refine AG.takeW 28 rfl (by kernel_rfl) (by kernel_rfl) rfl rfl rfl (fun _ => Ev.move rfl rfl) ?_
          refine AG.takeW 29 rfl (by kernel_rfl) (by kernel_rfl) rfl rfl rfl (fun _ => Ev.move rfl rfl) ?_
          refine AG.takeW 30 rfl (by kernel_rfl) (by kernel_rfl) rfl rfl rfl (fun _ => Ev.move rfl rfl) ?_
          refine AG.takeW 31 rfl (by kernel_rfl) (by kernel_rfl) rfl rfl rfl (fun _ => Ev.move rfl rfl) ?_
          refine AG.idxO _ 32 rfl (by kernel_rfl) (by kernel_rfl) rfl rfl rfl rfl rfl rfl Try.underlying27 sz_30 Rw.c_len ((Own.ext htv hxwl35)) (hr1) (fun g54 hg54 hBg54 hp53b hp53 => ?_)
          refine AG.takeW 33 rfl (by kernel_rfl) (by kernel_rfl) rfl rfl rfl (fun _ => Ev.fld rfl rfl fld_30_2) ?_
          refine AG.take 34 rfl (by kernel_rfl) (by kernel_rfl) rfl rfl rfl (fun wq hq => Ev.ldAt rfl rfl Try.underlying9 rfl (hp53.ext hq hp53b) (rfl)) ?_
          refine AG.takeW 35 rfl (by kernel_rfl) (by kernel_rfl) rfl rfl rfl (fun _ => Ev.move rfl rfl) ?_
          refine AG.takeW 36 rfl (by kernel_rfl) (by kernel_rfl) rfl rfl rfl (fun _ => Ev.move rfl rfl) ?_
          refine AG.idxO _ 37 rfl (by kernel_rfl) (by kernel_rfl) rfl rfl rfl rfl rfl rfl Try.underlying27 sz_30 Rw.c_len ((Own.ext htv hxwl35)) (hr2) (fun g56 hg56 hBg56 hp55b hp55 => ?_)
          refine AG.takeW 38 rfl (by kernel_rfl) (by kernel_rfl) rfl rfl rfl (fun _ => Ev.fld rfl rfl fld_30_1) ?_
          refine AG.take 39 rfl (by kernel_rfl) (by kernel_rfl) rfl rfl rfl (fun wq hq => Ev.ldAt rfl rfl Try.underlying9 rfl (hp55.ext hq hp55b) (rfl)) ?_
          refine AG.only 40 rfl (by kernel_rfl) ?_
          refine RG.call rfl rfl rfl rfl rfl rfl rfl en_20 (lwords_ret q r1.sh r2.lo _) ?_
          rintro _ w58 ⟨rfl, hx58⟩
          replace hxwl35 := Ex.tr hxwl35 hx58
          replace hE38 := Ex.tr hE38 hx58
          replace hE45 := Ex.tr hE45 hx58
          replace hE52 := Ex.tr hE52 hx58
          have hE59 := hx58
          refine RG.done ?_
          refine QW.an (fun _ => hE59) ?_
          refine AG.takeW 41 rfl (by kernel_rfl) (by kernel_rfl) rfl rfl rfl (fun _ => Ev.notF rfl rfl) ?_
          refine AG.takeW 42 rfl (by kernel_rfl) (by kernel_rfl) rfl rfl rfl (fun _ => Ev.pickF rfl rfl rfl) ?_
          refine AG.takeW 43 rfl (by kernel_rfl) (by kernel_rfl) rfl rfl rfl (fun _ => Ev.move rfl rfl) ?_
          refine AG.takeW 44 rfl (by kernel_rfl) (by kernel_rfl) rfl rfl rfl (fun _ => Ev.move rfl rfl) ?_
          refine AG.takeW 45 rfl (by kernel_rfl) (by kernel_rfl) rfl rfl rfl (fun _ => Ev.move rfl rfl) ?_
          refine AG.takeW 46 rfl (by kernel_rfl) (by kernel_rfl) rfl rfl rfl (fun _ => Ev.move rfl rfl) ?_
          refine AG.idxO _ 47 rfl (by kernel_rfl) (by kernel_rfl) rfl rfl rfl rfl rfl rfl Try.underlying27 sz_30 Rw.c_len ((Own.ext htv hxwl35)) (hr1) (fun g61 hg61 hBg61 hp60b hp60 => ?_)
          refine AG.takeW 48 rfl (by kernel_rfl) (by kernel_rfl) rfl rfl rfl (fun _ => Ev.fld rfl rfl fld_30_1) ?_
          refine AG.take 49 rfl (by kernel_rfl) (by kernel_rfl) rfl rfl rfl (fun wq hq => Ev.ldAt rfl rfl Try.underlying9 rfl (hp60.ext hq hp60b) (rfl)) ?_
          refine AG.takeW 50 rfl (by kernel_rfl) (by kernel_rfl) rfl rfl rfl (fun _ => Ev.move rfl rfl) ?_
          refine AG.takeW 51 rfl (by kernel_rfl) (by kernel_rfl) rfl rfl rfl (fun _ => Ev.move rfl rfl) ?_
          refine AG.idxO _ 52 rfl (by kernel_rfl) (by kernel_rfl) rfl rfl rfl rfl rfl rfl Try.underlying27 sz_30 Rw.c_len ((Own.ext htv hxwl35)) (hr2) (fun g63 hg63 hBg63 hp62b hp62 => ?_)
          refine AG.takeW 53 rfl (by kernel_rfl) (by kernel_rfl) rfl rfl rfl (fun _ => Ev.fld rfl rfl fld_30_1) ?_
          refine AG.take 54 rfl (by kernel_rfl) (by kernel_rfl) rfl rfl rfl (fun wq hq => Ev.ldAt rfl rfl Try.underlying9 rfl (hp62.ext hq hp62b) (rfl)) ?_
          refine AG.only 55 rfl (by kernel_rfl) ?_
          refine RG.call rfl rfl rfl rfl rfl rfl rfl en_20 (lwords_ret q r1.lo r2.lo _) ?_
          rintro _ w65 ⟨rfl, hx65⟩
          replace hxwl35 := Ex.tr hxwl35 hx65
          replace hE38 := Ex.tr hE38 hx65
          replace hE45 := Ex.tr hE45 hx65
          replace hE52 := Ex.tr hE52 hx65
          replace hE59 := Ex.tr hE59 hx65
          have hE66 := hx65
          refine RG.done ?_
          refine QW.an (fun _ => hE66) ?_
          refine AG.takeW 56 rfl (by kernel_rfl) (by kernel_rfl) rfl rfl rfl (fun _ => Ev.notF rfl rfl) ?_
          refine AG.takeW 57 rfl (by kernel_rfl) (by kernel_rfl) rfl rfl rfl (fun _ => Ev.pickF rfl rfl rfl) ?_
          refine AG.done (by kernel_rfl) ?_
          refine QW.sub (S' := [(3, _), (4, _), (5, _), (6, _), (118, _)]) ⟨rfl, rfl, rfl, rfl, rfl, trivial⟩ ?_
          refine QW.then_ ?_
          refine CW.condF rfl ?_
          refine CW.skip ?_
          refine QW.blockN ?_
          refine QW.then_ ?_
          refine CW.region ?_
          refine RG.vl rfl rfl rfl (Ev.move rfl rfl) ?_
          refine RG.vl rfl rfl rfl (Ev.add8 rfl rfl rfl (by omega)) ?_
          refine RG.vl rfl rfl rfl (Ev.assign rfl rfl) ?_
          refine RG.done ?_
          refine QW.round1 (q + 1) ⟨rfl, trivial⟩ ⟨rfl, rfl, rfl, trivial⟩ ⟨by omega, hxwl35⟩ (by omega)
        · refine CW.exit ?_
          refine QW.thenExit ?_
          refine QW.thenExit ?_
          refine QW.blockHit ?_
          refine QW.blockN ?_
          refine QW.then_ ?_
          refine CW.region ?_
          refine RG.vl rfl rfl rfl (Ev.move rfl rfl) ?_
          refine RG.vl rfl rfl rfl (Ev.addI rfl rfl rfl (by omega)) ?_
          refine RG.vl rfl rfl rfl (Ev.assign rfl rfl) ?_
          refine RG.done ?_
          refine QW.round1 (k + 1) ⟨rfl, trivial⟩ ⟨rfl, rfl, trivial⟩ ⟨by omega, (Ex.tr hR34 hxwl35)⟩ (by omega)
      · refine CW.exit ?_
        refine QW.thenExit ?_
        refine QW.thenExit ?_
        refine QW.blockHit ?_
        refine QW.then_ ?_
        refine CW.seq ?_
        obtain ⟨r1, hr1⟩ : ∃ r, tab[i]? = some r := ⟨_, List.getElem?_eq_getElem (by omega)⟩
        have hr1k := tab_k r1 (List.mem_of_getElem? hr1)
        refine CW.draw [] (.ex) 27 rfl mixed (fun wd67 hxwd67 => ?_)
        replace hxwl28 := Ex.tr hxwl28 hxwd67
        have hE68 := hxwd67
        refine AG.takeW 0 rfl (by kernel_rfl) (by kernel_rfl) rfl rfl rfl (fun _ => Ev.move rfl rfl) ?_
        refine AG.takeW 1 rfl (by kernel_rfl) (by kernel_rfl) rfl rfl rfl (fun _ => Ev.move rfl rfl) ?_
        refine AG.idxO _ 2 rfl (by kernel_rfl) (by kernel_rfl) rfl rfl rfl rfl rfl rfl Try.underlying27 sz_30 Rw.c_len ((Own.ext htv hxwl28)) (hr1) (fun g70 hg70 hBg70 hp69b hp69 => ?_)
        refine AG.takeW 3 rfl (by kernel_rfl) (by kernel_rfl) rfl rfl rfl (fun _ => Ev.fld rfl rfl fld_30_1) ?_
        refine AG.take 4 rfl (by kernel_rfl) (by kernel_rfl) rfl rfl rfl (fun wq hq => Ev.ldAt rfl rfl Try.underlying9 rfl (hp69.ext hq hp69b) (rfl)) ?_
        refine AG.takeW 5 rfl (by kernel_rfl) (by kernel_rfl) rfl rfl rfl (fun _ => Ev.move rfl rfl) ?_
        refine AG.takeW 6 rfl (by kernel_rfl) (by kernel_rfl) rfl rfl rfl (fun _ => Ev.move rfl rfl) ?_
        refine AG.idxO _ 7 rfl (by kernel_rfl) (by kernel_rfl) rfl rfl rfl rfl rfl rfl Try.underlying27 sz_30 Rw.c_len ((Own.ext htv hxwl28)) (hr1) (fun g72 hg72 hBg72 hp71b hp71 => ?_)
        refine AG.takeW 8 rfl (by kernel_rfl) (by kernel_rfl) rfl rfl rfl (fun _ => Ev.fld rfl rfl fld_30_2) ?_
        refine AG.take 9 rfl (by kernel_rfl) (by kernel_rfl) rfl rfl rfl (fun wq hq => Ev.ldAt rfl rfl Try.underlying9 rfl (hp71.ext hq hp71b) (rfl)) ?_
        refine AG.only 10 rfl (by kernel_rfl) ?_
        refine RG.call rfl rfl rfl rfl rfl rfl rfl en_20 (lwords_ret 255 r1.lo r1.sh _) ?_
        rintro _ w74 ⟨rfl, hx74⟩
        replace hxwl28 := Ex.tr hxwl28 hx74
        replace hE68 := Ex.tr hE68 hx74
        have hE75 := hx74
        refine RG.done ?_
        refine QW.an (fun _ => hE75) ?_
        refine AG.takeW 11 rfl (by kernel_rfl) (by kernel_rfl) rfl rfl rfl (fun _ => Ev.notF rfl rfl) ?_
        refine AG.takeW 12 rfl (by kernel_rfl) (by kernel_rfl) rfl rfl rfl (fun _ => Ev.move rfl rfl) ?_
        refine AG.takeW 13 rfl (by kernel_rfl) (by kernel_rfl) rfl rfl rfl (fun _ => Ev.move rfl rfl) ?_
        refine AG.takeW 14 rfl (by kernel_rfl) (by kernel_rfl) rfl rfl rfl (fun _ => Ev.move rfl rfl) ?_
        refine AG.idxO _ 15 rfl (by kernel_rfl) (by kernel_rfl) rfl rfl rfl rfl rfl rfl Try.underlying27 sz_30 Rw.c_len ((Own.ext htv hxwl28)) (hr1) (fun g77 hg77 hBg77 hp76b hp76 => ?_)
        refine AG.takeW 16 rfl (by kernel_rfl) (by kernel_rfl) rfl rfl rfl (fun _ => Ev.fld rfl rfl fld_30_1) ?_
        refine AG.take 17 rfl (by kernel_rfl) (by kernel_rfl) rfl rfl rfl (fun wq hq => Ev.ldAt rfl rfl Try.underlying9 rfl (hp76.ext hq hp76b) (rfl)) ?_
        refine AG.takeW 18 rfl (by kernel_rfl) (by kernel_rfl) rfl rfl rfl (fun _ => (Ev.cat rfl rfl rfl (by rw [sbytes, sbytes]; show _ + 1 ≤ _; omega)).conv (congrArg Value.string (bx_cat _ [83]))) ?_
        refine AG.takeW 19 rfl (by kernel_rfl) (by kernel_rfl) rfl rfl rfl (fun _ => Ev.move rfl rfl) ?_
        refine AG.takeW 20 rfl (by kernel_rfl) (by kernel_rfl) rfl rfl rfl (fun _ => Ev.move rfl rfl) ?_
        refine AG.idxO _ 21 rfl (by kernel_rfl) (by kernel_rfl) rfl rfl rfl rfl rfl rfl Try.underlying27 sz_30 Rw.c_len ((Own.ext htv hxwl28)) (hr1) (fun g79 hg79 hBg79 hp78b hp78 => ?_)
        refine AG.takeW 22 rfl (by kernel_rfl) (by kernel_rfl) rfl rfl rfl (fun _ => Ev.fld rfl rfl fld_30_1) ?_
        refine AG.take 23 rfl (by kernel_rfl) (by kernel_rfl) rfl rfl rfl (fun wq hq => Ev.ldAt rfl rfl Try.underlying9 rfl (hp78.ext hq hp78b) (rfl)) ?_
        refine AG.only 24 rfl (by kernel_rfl) ?_
        refine RG.call rfl rfl rfl rfl rfl rfl rfl en_20 (lwords_ret 0 (r1.lo ++ [83]) r1.lo _) ?_
        rintro _ w81 ⟨rfl, hx81⟩
        replace hxwl28 := Ex.tr hxwl28 hx81
        replace hE68 := Ex.tr hE68 hx81
        replace hE75 := Ex.tr hE75 hx81
        have hE82 := hx81
        refine RG.done ?_
        refine QW.an (fun _ => hE82) ?_
        refine AG.takeW 25 rfl (by kernel_rfl) (by kernel_rfl) rfl rfl rfl (fun _ => Ev.notF rfl rfl) ?_
        refine AG.takeW 26 rfl (by kernel_rfl) (by kernel_rfl) rfl rfl rfl (fun _ => Ev.pickF rfl rfl rfl) ?_
        refine AG.done (by kernel_rfl) ?_
        refine QW.sub (S' := [(3, _), (4, _), (145, _)]) ⟨rfl, rfl, rfl, trivial⟩ ?_
        refine QW.then_ ?_
        refine CW.condF rfl ?_
        refine CW.skip ?_
        refine QW.blockN ?_
        refine QW.then_ ?_
        refine CW.region ?_
        refine RG.vl rfl rfl rfl (Ev.move rfl rfl) ?_
        refine RG.vl rfl rfl rfl (Ev.addI rfl rfl rfl (by omega)) ?_
        refine RG.vl rfl rfl rfl (Ev.assign rfl rfl) ?_
        refine RG.done ?_
        refine QW.round1 (i + 1) ⟨rfl, trivial⟩ ⟨rfl, trivial⟩ ⟨by omega, (Ex.tr hR27 hxwl28)⟩ (by omega)
    · refine CW.exit ?_
      refine QW.thenExit ?_
      refine QW.thenExit ?_
      refine QW.blockHit ?_
      refine QW.then_ ?_
      refine CW.seq ?_
      obtain ⟨r0, hr0⟩ : ∃ r, tab[0]? = some r := ⟨_, List.getElem?_eq_getElem (by omega)⟩
      refine CW.region ?_
      refine RG.vl rfl rfl rfl (Ev.move rfl rfl) ?_
      refine RG.vl rfl rfl rfl (Ev.build1 rfl rfl rfl inf_30 rfl rfl (by kernel_rfl) rfl) ?_
      refine RG.idxO (i := 0) rfl rfl rfl rfl rfl rfl Try.underlying27 sz_30 Rw.c_len ((Own.ext htv hxwl22)) (hr0) (fun g84 hg84 hBg84 hp83b hp83 => ?_)
      refine RG.stOwAll (g := g84) (zeroR) rfl rfl rfl rfl rfl sz_30 rfl rfl Rw.c_len (Own.ext htv hxwl22) hg84 (hr0) (fun ws85 hwws85 hown86 => ?_)
      have hE87 := Wr.below (Ex.tr hR19 hxwl22) hwws85 hBg84
      refine RG.done ?_
      refine QW.then_ ?_
      refine CW.seq ?_
      refine CW.region ?_
      refine RG.call rfl rfl rfl rfl rfl rfl rfl en_13 (table_ret _) ?_
      have hpre88 := hE87
      rintro tv2 w88 ⟨htv2, hx88⟩
      have hE89 := hx88
      refine RG.vl rfl rfl rfl (Ev.build1 rfl rfl rfl inf_30 rfl rfl (by kernel_rfl) rfl) ?_
      refine RG.litO (os := [.tmp 150]) (enc := Rw.c) ([(⟨9, [], []⟩ : Rw)]) rfl rfl rfl rfl rfl rfl rfl Try.underlying27 inf_30 rfl rfl rfl rfl rfl Rw.c_len rfl rfl (fun v90 wk91 hxwk91 hown92 hnew93 => ?_)
      replace hE89 := Ex.tr hE89 hxwk91
      have hE94 := hxwk91
      refine RG.appO rfl rfl rfl rfl rfl rfl rfl Try.underlying27 inf_30 rfl rfl Rw.c_len (fun _ => rfl) (Own.ext htv2 hE94) ((hown92.rdl Rw.c_len)) (by show _ + 1 ≤ maxLen; simp only [maxLen]; omega) (by show (_ + 1) * _ ≤ _; omega) (hE89.size) (fun v95 wa96 hown97 hgr98 hat99 => ?_)
      replace hE89 := own_block (Own.ext htv2 hE94) hE89 hgr98 (Nat.le_refl _) hE89.size
      refine RG.vl rfl rfl rfl (Ev.assign rfl rfl) ?_
      refine RG.done ?_
      refine QW.then_ ?_
      refine CW.seq ?_
      have h41 : (tab ++ [(⟨9, [], []⟩ : Rw)]).length = 41 := by rw [List.length_append, tab40]; rfl
      refine CW.region ?_
      refine RG.vl rfl rfl rfl (Ev.move rfl rfl) ?_
      refine RG.vl rfl rfl rfl (Ev.move rfl rfl) ?_
      refine RG.vl rfl rfl rfl (Ev.lenL rfl rfl rfl Try.underlying27 ((hown97.rdl Rw.c_len))) ?_
      refine RG.vl rfl rfl rfl ((Ev.subI rfl rfl rfl (by omega)).conv (congrArg (Value.int .i64) (show (((tab ++ [(⟨9, [], []⟩ : Rw)]).length : Nat) : Int) - 1 = ((40 : Nat) : Int) by omega))) ?_
      refine RG.sliceL (L := 0) (H := 40) _ rfl rfl rfl rfl rfl Try.underlying27 sz_30 ((hown97.rdl Rw.c_len)) (.inl ⟨rfl, rfl⟩) (.inr ⟨_, _, _, rfl, rfl, by omega⟩) (by omega) (by rw [List.length_append]; show 40 ≤ _ + 1; omega) (fun v100 hrv100 => ?_)
      rw [show ((tab ++ [(⟨9, [], []⟩ : Rw)]).take 40).drop 0 = tab from by kernel_rfl] at hrv100
      refine RG.call rfl rfl rfl rfl rfl rfl rfl en_19 (lsame_ret _ _ (hrv100)) ?_
      rintro _ w101 ⟨rfl, hx101⟩
      replace hE89 := Ex.tr hE89 hx101
      have hE102 := hx101
      refine RG.vl rfl rfl rfl (Ev.move rfl rfl) ?_
      refine RG.call rfl rfl rfl rfl rfl rfl rfl en_13 (table_ret _) ?_
      have hpre103 := (Ex.tr hE87 hE89)
      rintro tv3 w103 ⟨htv3, hx103⟩
      replace hE89 := Ex.tr hE89 hx103
      replace hE102 := Ex.tr hE102 hx103
      have hE104 := hx103
      refine RG.call rfl rfl rfl rfl rfl rfl rfl en_19 (lsame_ret _ _ ((htv3.rdl Rw.c_len))) ?_
      rintro _ w105 ⟨rfl, hx105⟩
      replace hE89 := Ex.tr hE89 hx105
      replace hE102 := Ex.tr hE102 hx105
      replace hE104 := Ex.tr hE104 hx105
      have hE106 := hx105
      refine RG.vl rfl rfl rfl (Ev.pickT rfl rfl rfl) ?_
      refine RG.vl rfl rfl rfl (Ev.move rfl rfl) ?_
      refine RG.call rfl rfl rfl rfl rfl rfl rfl en_8 (awake_ret _) ?_
      rintro _ w107 ⟨rfl, hx107⟩
      replace hE89 := Ex.tr hE89 hx107
      replace hE102 := Ex.tr hE102 hx107
      replace hE104 := Ex.tr hE104 hx107
      replace hE106 := Ex.tr hE106 hx107
      have hE108 := hx107
      refine RG.vl rfl rfl rfl (Ev.pickT rfl rfl rfl) ?_
      refine RG.vl rfl rfl rfl (Ev.assign rfl rfl) ?_
      refine RG.done ?_
      refine QW.sub (S' := [(0, _)]) ⟨rfl, trivial⟩ ?_
      refine QW.then_ ?_
      refine CW.ret ?_
      refine QW.ret1 rfl rfl ?_
      have hB := (Ex.tr hE87 hE89)
      exact ⟨rfl, hB⟩

end Go.Proofs.Ytehlnkhbbnddmaa
