/- Walks (OY). Written by program. -/
import Derived.Test.YtlbcjhbdkeeahaaT
import Derived.Test.YtlbcjhbdkeeahaaOX
namespace Go.Proofs.Ytlbcjhbdkeeahaa
open Go.RowKit
set_option maxRecDepth 100000 in
set_option maxHeartbeats 8000000 in
theorem foldBoth_ret (k : Nat) (a b : List UInt8) (w : World)  :
    Ret Try.prog 5 [.int .u8 (k : Int), .string ⟨a.toArray⟩, .string ⟨b.toArray⟩] w (fun v w' => v = .bool true ∧ Ex w w') := by
  have hB0 : Ex w w := Ex.rfl_ _
  refine Ret.of Try.func5 rfl Try.ntmps5 rfl ?_
  refine CW.seq ?_
  refine CW.region ?_
  refine RG.vl rfl rfl rfl (Ev.assign rfl rfl) ?_
  refine RG.done ?_
  refine QW.then_ ?_
  refine CW.seq ?_
  refine CW.seq ?_
  refine CW.region ?_
  refine RG.call rfl rfl rfl rfl rfl rfl rfl en_8 (awake_ret _) ?_
  rintro _ w1 ⟨rfl, hx1⟩
  have hE2 := hx1
  refine RG.vl rfl rfl rfl (Ev.notF rfl rfl) ?_
  refine RG.done ?_
  refine QW.then_ ?_
  refine CW.condF rfl ?_
  refine CW.skip ?_
  refine QW.then_ ?_
  refine CW.seq ?_
  refine CW.seq ?_
  refine CW.region ?_
  refine RG.vl rfl rfl rfl (Ev.move rfl rfl) ?_
  refine RG.vl rfl rfl rfl (Ev.lenStr rfl rfl rfl Try.underlying9) ?_
  refine RG.vl rfl rfl rfl (Ev.gtr rfl rfl rfl) ?_
  refine RG.vl rfl rfl rfl (Ev.move rfl rfl) ?_
  refine RG.split (d := 17) rfl (fun hg3 => ?_) (fun hg3 => ?_)
  · refine RG.pass rfl rfl rfl ?_
    refine RG.pass rfl rfl rfl ?_
    refine RG.pass rfl rfl rfl ?_
    refine RG.vl rfl rfl rfl (Ev.pickT rfl rfl rfl) ?_
    refine RG.done ?_
    refine QW.then_ ?_
    refine CW.condT rfl ?_
    refine CW.seq ?_
    refine CW.region ?_
    refine RG.vl rfl rfl rfl (Ev.assign rfl rfl) ?_
    refine RG.done ?_
    refine QW.then_ ?_
    refine CW.ret ?_
    refine QW.thenRet ?_
    refine QW.ret1 rfl rfl ?_
    have hB := (Ex.tr hB0 hE2)
    exact ⟨rfl, hB⟩
  · refine RG.vl rfl rfl rfl (Ev.move rfl rfl) ?_
    refine RG.vl rfl rfl rfl (Ev.lenStr rfl rfl rfl Try.underlying9) ?_
    refine RG.vl rfl rfl rfl (Ev.gtr rfl rfl rfl) ?_
    refine RG.vl rfl rfl rfl (Ev.pickF rfl rfl rfl) ?_
    refine RG.done ?_
    refine QW.then_ ?_
    refine CW.condP rfl (fun hc4 => ?_) (fun hc4 => ?_)
    · refine CW.seq ?_
      refine CW.region ?_
      refine RG.vl rfl rfl rfl (Ev.assign rfl rfl) ?_
      refine RG.done ?_
      refine QW.then_ ?_
      refine CW.ret ?_
      refine QW.thenRet ?_
      refine QW.ret1 rfl rfl ?_
      have hB := (Ex.tr hB0 hE2)
      exact ⟨rfl, hB⟩
    · refine CW.skip ?_
      refine QW.then_ ?_
      refine CW.seq ?_
      refine CW.seq ?_
      refine CW.region ?_
      refine RG.vl rfl rfl rfl (Ev.move rfl rfl) ?_
      refine RG.vl rfl rfl rfl (Ev.move rfl rfl) ?_
      refine RG.vl rfl rfl rfl (Ev.move rfl rfl) ?_
      refine RG.call rfl rfl rfl rfl rfl rfl rfl en_12 (same_is k a b (sameR k a b) _ (rfl)) ?_
      rintro _ w5 ⟨rfl, hx5⟩
      replace hE2 := Ex.tr hE2 hx5
      have hE6 := hx5
      refine RG.vl rfl rfl rfl (Ev.move rfl rfl) ?_
      refine RG.vl rfl rfl rfl (Ev.move rfl rfl) ?_
      refine RG.vl rfl rfl rfl (Ev.move rfl rfl) ?_
      refine RG.call rfl rfl rfl rfl rfl rfl rfl en_12 (same_is k b a (sameR k a b) _ (same_comm k a b)) ?_
      rintro _ w7 ⟨rfl, hx7⟩
      replace hE2 := Ex.tr hE2 hx7
      replace hE6 := Ex.tr hE6 hx7
      have hE8 := hx7
      refine RG.vl rfl rfl rfl (Ev.isF (Ev.neB rfl rfl rfl Try.underlying4) (fun h => h rfl)) ?_
      refine RG.vl rfl rfl rfl (Ev.move rfl rfl) ?_
      refine RG.vl rfl rfl rfl (Ev.move rfl rfl) ?_
      refine RG.vl rfl rfl rfl (Ev.move rfl rfl) ?_
      refine RG.vl rfl rfl rfl (Ev.move rfl rfl) ?_
      refine RG.call rfl rfl rfl rfl rfl rfl rfl en_12 (same_is k a a true _ (same_refl k a)) ?_
      rintro _ w9 ⟨rfl, hx9⟩
      replace hE2 := Ex.tr hE2 hx9
      replace hE6 := Ex.tr hE6 hx9
      replace hE8 := Ex.tr hE8 hx9
      have hE10 := hx9
      refine RG.vl rfl rfl rfl (Ev.notF rfl rfl) ?_
      refine RG.vl rfl rfl rfl (Ev.pickF rfl rfl rfl) ?_
      refine RG.vl rfl rfl rfl (Ev.move rfl rfl) ?_
      refine RG.vl rfl rfl rfl (Ev.move rfl rfl) ?_
      refine RG.vl rfl rfl rfl (Ev.gtr rfl rfl rfl) ?_
      refine RG.vl rfl rfl rfl (Ev.move rfl rfl) ?_
      refine RG.split (d := 41) rfl (fun hg11 => ?_) (fun hg11 => ?_)
      · refine RG.vl rfl rfl rfl (Ev.move rfl rfl) ?_
        refine RG.vl rfl rfl rfl (Ev.move rfl rfl) ?_
        refine RG.vl rfl rfl rfl (Ev.move rfl rfl) ?_
        refine RG.call rfl rfl rfl rfl rfl rfl rfl en_12 (same_is k a b (decide (a = b)) _ (same_big (by omega) a b)) ?_
        rintro _ w12 ⟨rfl, hx12⟩
        replace hE2 := Ex.tr hE2 hx12
        replace hE6 := Ex.tr hE6 hx12
        replace hE8 := Ex.tr hE8 hx12
        replace hE10 := Ex.tr hE10 hx12
        have hE13 := hx12
        refine RG.vl rfl rfl rfl (Ev.move rfl rfl) ?_
        refine RG.vl rfl rfl rfl (Ev.move rfl rfl) ?_
        refine RG.vl rfl rfl rfl (Ev.eqS rfl rfl rfl) ?_
        refine RG.vl rfl rfl rfl (Ev.isF (Ev.neB rfl rfl rfl Try.underlying4) (fun h => h (decide_eq_decide.2 binj.symm))) ?_
        refine RG.vl rfl rfl rfl (Ev.pickT rfl rfl rfl) ?_
        refine RG.vl rfl rfl rfl (Ev.pickF rfl rfl rfl) ?_
        refine RG.done ?_
        refine QW.sub (S' := [(0, _), (1, _), (6, _), (51, _)]) ⟨rfl, rfl, rfl, rfl, trivial⟩ ?_
        refine QW.then_ ?_
        refine CW.condF rfl ?_
        refine CW.skip ?_
        refine QW.then_ ?_
        refine CW.seq ?_
        refine CW.region ?_
        have hR14 := (Ex.tr hB0 hE2)
        have hR15 := hE6
        have hR16 := hE8
        have hR17 := hE10
        have hR18 := hE13
        refine RG.call rfl rfl rfl rfl rfl rfl rfl en_13 (table_ret _) ?_
        have hpre19 := hR14
        rintro tv w19 ⟨htb, hx19⟩
        have hE20 := hx19
        refine RG.vl rfl rfl rfl (Ev.assign rfl rfl) ?_
        refine RG.done ?_
        refine QW.then_ ?_
        refine CW.seq ?_
        refine CW.seq ?_
        refine CW.region ?_
        refine RG.vl rfl rfl rfl (Ev.assign rfl rfl) ?_
        refine RG.done ?_
        refine QW.then_ ?_
        refine CW.block ?_
        have hR21 := (Ex.tr hR14 hE20)
        have hR22 := (Ex.tr hR15 hE20)
        have hR23 := (Ex.tr hR16 hE20)
        have hR24 := (Ex.tr hR17 hE20)
        have hR25 := (Ex.tr hR18 hE20)
        have hR26 := hE20
        refine CW.loop1 [(0, _), (1, _), (7, _)] ⟨rfl, rfl, rfl, trivial⟩ (fun (i : Nat) => [(8, .int .i64 i)]) (fun i w' => (i ≤ tab.length) ∧ Ex w19 w') (fun i => tab.length - i) (0) ⟨rfl, trivial⟩ ⟨Nat.zero_le _, (Ex.rfl_ _)⟩ ?_
        rintro i wl27 ⟨hi, hxwl27⟩
        refine CW.sub (S' := [(8, _), (0, _), (1, _), (7, _)]) ⟨rfl, rfl, rfl, rfl, trivial⟩ ?_
        have ht40 := tab40
        refine CW.seq ?_
        refine CW.seq ?_
        refine CW.region ?_
        refine RG.vl rfl rfl rfl (Ev.move rfl rfl) ?_
        refine RG.vl rfl rfl rfl (Ev.move rfl rfl) ?_
        refine RG.vl rfl rfl rfl (Ev.lenL rfl rfl rfl Try.underlying27 (((Own.ext htb hxwl27).rdl Rw.c_len))) ?_
        refine RG.vl rfl rfl rfl (Ev.lss rfl rfl rfl) ?_
        refine RG.done ?_
        refine QW.then_ ?_
        refine CW.condP rfl (fun hc28 => ?_) (fun hc28 => ?_)
        · refine CW.skip ?_
          refine QW.then_ ?_
          refine CW.seq ?_
          refine CW.block ?_
          refine CW.seq ?_
          obtain ⟨r, hr⟩ : ∃ r, tab[i]? = some r := ⟨_, List.getElem?_eq_getElem (by omega)⟩
          have hrt := List.mem_of_getElem? hr
          obtain ⟨m1, m2, m3, m4, m5⟩ := row_all hrt
          obtain ⟨n1, n2, n3, n4, n5⟩ := row_kinds hrt
          obtain ⟨n6, n7, n8⟩ := tab_k r hrt
          refine CW.region ?_
          refine RG.vl rfl rfl rfl (Ev.move rfl rfl) ?_
          refine RG.vl rfl rfl rfl (Ev.move rfl rfl) ?_
          refine RG.idxO rfl rfl rfl rfl rfl rfl Try.underlying27 sz_30 Rw.c_len ((Own.ext htb hxwl27)) (hr) (fun g30 hg30 hBg30 hp29b hp29 => ?_)
          refine RG.vl rfl rfl rfl (Ev.ldAgg rfl rfl Try.underlying30 rfl sz_30 rfl (hp29)) ?_
          refine RG.local_ rfl rfl rfl rfl (fun _ => rfl) rfl rfl (fun _ => rfl) inf_30 rfl rfl rfl (fun g31 w31 eg31 hx31 hb31 => ?_)
          have hsb32 := fun e => sep_new (g := g31) (Own.ext htb hxwl27) eg31 e
          have hle33 : w19.heap.size ≤ g31 := by have := hxwl27.size; omega
          have hle34 : wl27.heap.size ≤ g31 := by have := (Ex.rfl_ wl27).size; omega
          replace hxwl27 := Ex.tr hxwl27 hx31
          have hE35 := hx31
          refine RG.done ?_
          refine QW.then_ ?_
          refine CW.seq ?_
          refine CW.seq ?_
          refine CW.draw [] (.ex) 47 rfl mixed (fun wd36 hxwd36 => ?_)
          replace hxwl27 := Ex.tr hxwl27 hxwd36
          replace hE35 := Ex.tr hE35 hxwd36
          have hE37 := hxwd36
          refine AG.takeW 0 rfl (by kernel_rfl) (by kernel_rfl) rfl rfl rfl (fun _ => Ev.fld rfl rfl fld_30_0) ?_
          refine AG.take 1 rfl (by kernel_rfl) (by kernel_rfl) rfl rfl rfl (fun wq hq => Ev.ldAt rfl rfl Try.underlying5 rfl (((hb31.ext hE37).ext hq).cells) (rfl)) ?_
          refine AG.takeW 2 rfl (by kernel_rfl) (by kernel_rfl) rfl rfl rfl (fun _ => Ev.fld rfl rfl fld_30_2) ?_
          refine AG.take 3 rfl (by kernel_rfl) (by kernel_rfl) rfl rfl rfl (fun wq hq => Ev.ldAt rfl rfl Try.underlying9 rfl (((hb31.ext hE37).ext hq).cells) (rfl)) ?_
          refine AG.takeW 5 rfl (by kernel_rfl) (by kernel_rfl) rfl rfl rfl (fun _ => Ev.fld rfl rfl fld_30_1) ?_
          refine AG.take 6 rfl (by kernel_rfl) (by kernel_rfl) rfl rfl rfl (fun wq hq => Ev.ldAt rfl rfl Try.underlying9 rfl (((hb31.ext hE37).ext hq).cells) (rfl)) ?_
          refine AG.only 4 rfl (by kernel_rfl) ?_
          refine RG.call rfl rfl rfl rfl rfl rfl rfl en_15 (longs_ret r.k r.sh _) ?_
          have hpre39 := (Ex.tr hR21 hxwl27)
          rintro lv39 w39 ⟨hlv39, hx39⟩
          replace hxwl27 := Ex.tr hxwl27 hx39
          replace hE35 := Ex.tr hE35 hx39
          replace hE37 := Ex.tr hE37 hx39
          have hE40 := hx39
          refine RG.done ?_
          refine QW.an (fun _ => hE40) ?_
          refine AG.only 7 rfl (by kernel_rfl) ?_
          refine RG.call rfl rfl rfl rfl rfl rfl rfl en_14 (lhas_is _ (longsR r.k r.sh) r.lo _ ((hlv39.rdl encT_len)) (by have := longs_len (r.k) (r.sh); omega) m1) ?_
          rintro _ w42 ⟨rfl, hx42⟩
          replace hxwl27 := Ex.tr hxwl27 hx42
          replace hE35 := Ex.tr hE35 hx42
          replace hE37 := Ex.tr hE37 hx42
          replace hE40 := Ex.tr hE40 hx42
          have hE43 := hx42
          refine RG.done ?_
          refine QW.an (fun _ => hE43) ?_
          refine AG.takeW 8 rfl (by kernel_rfl) (by kernel_rfl) rfl rfl rfl (fun _ => Ev.notF rfl rfl) ?_
          refine AG.takeW 9 rfl (by kernel_rfl) (by kernel_rfl) rfl rfl rfl (fun _ => Ev.move rfl rfl) ?_
          refine AG.takeW 10 rfl (by kernel_rfl) (by kernel_rfl) rfl rfl rfl (fun _ => Ev.fld rfl rfl fld_30_0) ?_
          refine AG.take 11 rfl (by kernel_rfl) (by kernel_rfl) rfl rfl rfl (fun wq hq => Ev.ldAt rfl rfl Try.underlying5 rfl (((hb31.ext hE37).ext hq).cells) (rfl)) ?_
          refine AG.takeW 12 rfl (by kernel_rfl) (by kernel_rfl) rfl rfl rfl (fun _ => Ev.fld rfl rfl fld_30_1) ?_
          refine AG.take 13 rfl (by kernel_rfl) (by kernel_rfl) rfl rfl rfl (fun wq hq => Ev.ldAt rfl rfl Try.underlying9 rfl (((hb31.ext hE37).ext hq).cells) (rfl)) ?_
          refine AG.takeW 15 rfl (by kernel_rfl) (by kernel_rfl) rfl rfl rfl (fun _ => Ev.fld rfl rfl fld_30_1) ?_
          refine AG.take 16 rfl (by kernel_rfl) (by kernel_rfl) rfl rfl rfl (fun wq hq => Ev.ldAt rfl rfl Try.underlying9 rfl (((hb31.ext hE37).ext hq).cells) (rfl)) ?_
          refine AG.only 14 rfl (by kernel_rfl) ?_
          refine RG.call rfl rfl rfl rfl rfl rfl rfl en_15 (longs_ret r.k r.lo _) ?_
          have hpre45 := (Ex.tr hR21 hxwl27)
          rintro lv45 w45 ⟨hlv45, hx45⟩
          replace hxwl27 := Ex.tr hxwl27 hx45
          replace hE35 := Ex.tr hE35 hx45
          replace hE37 := Ex.tr hE37 hx45
          replace hE40 := Ex.tr hE40 hx45
          replace hE43 := Ex.tr hE43 hx45
          have hE46 := hx45
          refine RG.done ?_
          refine QW.an (fun _ => hE46) ?_
          refine AG.only 17 rfl (by kernel_rfl) ?_
          refine RG.call rfl rfl rfl rfl rfl rfl rfl en_14 (lhas_is _ (longsR r.k r.lo) r.lo _ ((hlv45.rdl encT_len)) (by have := longs_len (r.k) (r.lo); omega) m2) ?_
          rintro _ w48 ⟨rfl, hx48⟩
          replace hxwl27 := Ex.tr hxwl27 hx48
          replace hE35 := Ex.tr hE35 hx48
          replace hE37 := Ex.tr hE37 hx48
          replace hE40 := Ex.tr hE40 hx48
          replace hE43 := Ex.tr hE43 hx48
          replace hE46 := Ex.tr hE46 hx48
          have hE49 := hx48
          refine RG.done ?_
          refine QW.an (fun _ => hE49) ?_
          refine AG.takeW 18 rfl (by kernel_rfl) (by kernel_rfl) rfl rfl rfl (fun _ => Ev.notF rfl rfl) ?_
          refine AG.takeW 19 rfl (by kernel_rfl) (by kernel_rfl) rfl rfl rfl (fun _ => Ev.pickF rfl rfl rfl) ?_
          refine AG.takeW 20 rfl (by kernel_rfl) (by kernel_rfl) rfl rfl rfl (fun _ => Ev.move rfl rfl) ?_
          refine AG.takeW 21 rfl (by kernel_rfl) (by kernel_rfl) rfl rfl rfl (fun _ => Ev.fld rfl rfl fld_30_2) ?_
          refine AG.take 22 rfl (by kernel_rfl) (by kernel_rfl) rfl rfl rfl (fun wq hq => Ev.ldAt rfl rfl Try.underlying9 rfl (((hb31.ext hE37).ext hq).cells) (rfl)) ?_
          refine AG.takeW 24 rfl (by kernel_rfl) (by kernel_rfl) rfl rfl rfl (fun _ => Ev.fld rfl rfl fld_30_1) ?_
          refine AG.take 25 rfl (by kernel_rfl) (by kernel_rfl) rfl rfl rfl (fun wq hq => Ev.ldAt rfl rfl Try.underlying9 rfl (((hb31.ext hE37).ext hq).cells) (rfl)) ?_
          refine AG.only 23 rfl (by kernel_rfl) ?_
          refine RG.call rfl rfl rfl rfl rfl rfl rfl en_15 (longs_ret 0 r.sh _) ?_
          have hpre51 := (Ex.tr hR21 hxwl27)
          rintro lv51 w51 ⟨hlv51, hx51⟩
          replace hxwl27 := Ex.tr hxwl27 hx51
          replace hE35 := Ex.tr hE35 hx51
          replace hE37 := Ex.tr hE37 hx51
          replace hE40 := Ex.tr hE40 hx51
          replace hE43 := Ex.tr hE43 hx51
          replace hE46 := Ex.tr hE46 hx51
          replace hE49 := Ex.tr hE49 hx51
          have hE52 := hx51
          refine RG.done ?_
          refine QW.an (fun _ => hE52) ?_
          refine AG.only 26 rfl (by kernel_rfl) ?_
          refine RG.call rfl rfl rfl rfl rfl rfl rfl en_14 (lhas_is _ (longsR 0 r.sh) r.lo _ ((hlv51.rdl encT_len)) (by have := longs_len (0) (r.sh); omega) m3) ?_
          rintro _ w54 ⟨rfl, hx54⟩
          replace hxwl27 := Ex.tr hxwl27 hx54
          replace hE35 := Ex.tr hE35 hx54
          replace hE37 := Ex.tr hE37 hx54
          replace hE40 := Ex.tr hE40 hx54
          replace hE43 := Ex.tr hE43 hx54
          replace hE46 := Ex.tr hE46 hx54
          replace hE49 := Ex.tr hE49 hx54
          replace hE52 := Ex.tr hE52 hx54
          have hE55 := hx54
          refine RG.done ?_
          refine QW.an (fun _ => hE55) ?_
          refine AG.takeW 27 rfl (by kernel_rfl) (by kernel_rfl) rfl rfl rfl (fun _ => Ev.notF rfl rfl) ?_
          refine AG.takeW 28 rfl (by kernel_rfl) (by kernel_rfl) rfl rfl rfl (fun _ => Ev.pickF rfl rfl rfl) ?_
          refine AG.takeW 29 rfl (by kernel_rfl) (by kernel_rfl) rfl rfl rfl (fun _ => Ev.move rfl rfl) ?_
          refine AG.takeW 30 rfl (by kernel_rfl) (by kernel_rfl) rfl rfl rfl (fun _ => Ev.fld rfl rfl fld_30_0) ?_
          refine AG.take 31 rfl (by kernel_rfl) (by kernel_rfl) rfl rfl rfl (fun wq hq => Ev.ldAt rfl rfl Try.underlying5 rfl (((hb31.ext hE37).ext hq).cells) (rfl)) ?_
          refine AG.takeW 32 rfl (by kernel_rfl) (by kernel_rfl) rfl rfl rfl (fun _ => Ev.fld rfl rfl fld_30_1) ?_
          refine AG.take 33 rfl (by kernel_rfl) (by kernel_rfl) rfl rfl rfl (fun wq hq => Ev.ldAt rfl rfl Try.underlying9 rfl (((hb31.ext hE37).ext hq).cells) (rfl)) ?_
          refine AG.takeW 34 rfl (by kernel_rfl) (by kernel_rfl) rfl rfl rfl (fun _ => Ev.fld rfl rfl fld_30_2) ?_
          refine AG.take 35 rfl (by kernel_rfl) (by kernel_rfl) rfl rfl rfl (fun wq hq => Ev.ldAt rfl rfl Try.underlying9 rfl (((hb31.ext hE37).ext hq).cells) (rfl)) ?_
          refine AG.only 36 rfl (by kernel_rfl) ?_
          refine RG.call rfl rfl rfl rfl rfl rfl rfl en_12 (same_is r.k r.lo r.sh true _ (m4)) ?_
          rintro _ w57 ⟨rfl, hx57⟩
          replace hxwl27 := Ex.tr hxwl27 hx57
          replace hE35 := Ex.tr hE35 hx57
          replace hE37 := Ex.tr hE37 hx57
          replace hE40 := Ex.tr hE40 hx57
          replace hE43 := Ex.tr hE43 hx57
          replace hE46 := Ex.tr hE46 hx57
          replace hE49 := Ex.tr hE49 hx57
          replace hE52 := Ex.tr hE52 hx57
          replace hE55 := Ex.tr hE55 hx57
          have hE58 := hx57
          refine RG.done ?_
          refine QW.an (fun _ => hE58) ?_
          refine AG.takeW 37 rfl (by kernel_rfl) (by kernel_rfl) rfl rfl rfl (fun _ => Ev.notF rfl rfl) ?_
          refine AG.takeW 38 rfl (by kernel_rfl) (by kernel_rfl) rfl rfl rfl (fun _ => Ev.pickF rfl rfl rfl) ?_
          refine AG.takeW 39 rfl (by kernel_rfl) (by kernel_rfl) rfl rfl rfl (fun _ => Ev.move rfl rfl) ?_
          refine AG.takeW 40 rfl (by kernel_rfl) (by kernel_rfl) rfl rfl rfl (fun _ => Ev.fld rfl rfl fld_30_2) ?_
          refine AG.take 41 rfl (by kernel_rfl) (by kernel_rfl) rfl rfl rfl (fun wq hq => Ev.ldAt rfl rfl Try.underlying9 rfl (((hb31.ext hE37).ext hq).cells) (rfl)) ?_
          refine AG.takeW 42 rfl (by kernel_rfl) (by kernel_rfl) rfl rfl rfl (fun _ => Ev.fld rfl rfl fld_30_1) ?_
          refine AG.take 43 rfl (by kernel_rfl) (by kernel_rfl) rfl rfl rfl (fun wq hq => Ev.ldAt rfl rfl Try.underlying9 rfl (((hb31.ext hE37).ext hq).cells) (rfl)) ?_
          refine AG.only 44 rfl (by kernel_rfl) ?_
          refine RG.call rfl rfl rfl rfl rfl rfl rfl en_12 (same_is 0 r.sh r.lo true _ (m5)) ?_
          rintro _ w60 ⟨rfl, hx60⟩
          replace hxwl27 := Ex.tr hxwl27 hx60
          replace hE35 := Ex.tr hE35 hx60
          replace hE37 := Ex.tr hE37 hx60
          replace hE40 := Ex.tr hE40 hx60
          replace hE43 := Ex.tr hE43 hx60
          replace hE46 := Ex.tr hE46 hx60
          replace hE49 := Ex.tr hE49 hx60
          replace hE52 := Ex.tr hE52 hx60
          replace hE55 := Ex.tr hE55 hx60
          replace hE58 := Ex.tr hE58 hx60
          have hE61 := hx60
          refine RG.done ?_
          refine QW.an (fun _ => hE61) ?_
          refine AG.takeW 45 rfl (by kernel_rfl) (by kernel_rfl) rfl rfl rfl (fun _ => Ev.notF rfl rfl) ?_
          refine AG.takeW 46 rfl (by kernel_rfl) (by kernel_rfl) rfl rfl rfl (fun _ => Ev.pickF rfl rfl rfl) ?_
          refine AG.done (by kernel_rfl) ?_
          refine QW.sub (S' := [(0, _), (1, _), (7, _), (8, _), (9, _), (109, _)]) ⟨rfl, rfl, rfl, rfl, rfl, rfl, trivial⟩ ?_
          refine QW.then_ ?_
          refine CW.condF rfl ?_
          refine CW.skip ?_
          refine QW.then_ ?_
          refine CW.seq ?_
          refine CW.draw [] (.ex) 30 rfl mixed (fun wd62 hxwd62 => ?_)
          replace hxwl27 := Ex.tr hxwl27 hxwd62
          replace hE35 := Ex.tr hE35 hxwd62
          replace hE37 := Ex.tr hE37 hxwd62
          replace hE40 := Ex.tr hE40 hxwd62
          replace hE43 := Ex.tr hE43 hxwd62
          replace hE46 := Ex.tr hE46 hxwd62
          replace hE49 := Ex.tr hE49 hxwd62
          replace hE52 := Ex.tr hE52 hxwd62
          replace hE55 := Ex.tr hE55 hxwd62
          replace hE58 := Ex.tr hE58 hxwd62
          replace hE61 := Ex.tr hE61 hxwd62
          refine AG.takeW 0 rfl (by kernel_rfl) (by kernel_rfl) rfl rfl rfl (fun _ => Ev.fld rfl rfl fld_30_1) ?_
          refine AG.take 1 rfl (by kernel_rfl) (by kernel_rfl) rfl rfl rfl (fun wq hq => Ev.ldAt rfl rfl Try.underlying9 rfl (((hb31.ext hE37).ext hq).cells) (rfl)) ?_
          refine AG.takeW 3 rfl (by kernel_rfl) (by kernel_rfl) rfl rfl rfl (fun _ => Ev.fld rfl rfl fld_30_0) ?_
          refine AG.take 4 rfl (by kernel_rfl) (by kernel_rfl) rfl rfl rfl (fun wq hq => Ev.ldAt rfl rfl Try.underlying5 rfl (((hb31.ext hE37).ext hq).cells) (rfl)) ?_
          refine AG.only 2 rfl (by kernel_rfl) ?_
          refine RG.call rfl rfl rfl rfl rfl rfl rfl en_16 (kinds_ret r.lo _) ?_
          rintro _ w64 ⟨rfl, hx64⟩
          replace hxwl27 := Ex.tr hxwl27 hx64
          replace hE35 := Ex.tr hE35 hx64
          replace hE37 := Ex.tr hE37 hx64
          replace hE40 := Ex.tr hE40 hx64
          replace hE43 := Ex.tr hE43 hx64
          replace hE46 := Ex.tr hE46 hx64
          replace hE49 := Ex.tr hE49 hx64
          replace hE52 := Ex.tr hE52 hx64
          replace hE55 := Ex.tr hE55 hx64
          replace hE58 := Ex.tr hE58 hx64
          replace hE61 := Ex.tr hE61 hx64
          have hE65 := hx64
          refine RG.done ?_
          refine QW.an (fun _ => hE65) ?_
          refine AG.takeW 5 rfl (by kernel_rfl) (by kernel_rfl) rfl rfl rfl (fun _ => Ev.shrN rfl rfl rfl (by show _ ≤ 8; omega)) ?_
          refine AG.takeW 6 rfl (by kernel_rfl) (by kernel_rfl) rfl rfl rfl (fun _ => Ev.rem8 rfl rfl rfl (⟨Int.natCast_nonneg _, by omega⟩)) ?_
          refine AG.takeW 7 rfl (by kernel_rfl) (by kernel_rfl) rfl rfl rfl (fun _ => Ev.isF (Ev.neI rfl rfl rfl) (by omega)) ?_
          refine AG.takeW 8 rfl (by kernel_rfl) (by kernel_rfl) rfl rfl rfl (fun _ => Ev.move rfl rfl) ?_
          refine AG.takeW 9 rfl (by kernel_rfl) (by kernel_rfl) rfl rfl rfl (fun _ => Ev.fld rfl rfl fld_30_2) ?_
          refine AG.take 10 rfl (by kernel_rfl) (by kernel_rfl) rfl rfl rfl (fun wq hq => Ev.ldAt rfl rfl Try.underlying9 rfl (((hb31.ext hE37).ext hq).cells) (rfl)) ?_
          refine AG.takeW 12 rfl (by kernel_rfl) (by kernel_rfl) rfl rfl rfl (fun _ => Ev.fld rfl rfl fld_30_0) ?_
          refine AG.take 13 rfl (by kernel_rfl) (by kernel_rfl) rfl rfl rfl (fun wq hq => Ev.ldAt rfl rfl Try.underlying5 rfl (((hb31.ext hE37).ext hq).cells) (rfl)) ?_
          refine AG.only 11 rfl (by kernel_rfl) ?_
          refine RG.call rfl rfl rfl rfl rfl rfl rfl en_16 (kinds_ret r.sh _) ?_
          rintro _ w67 ⟨rfl, hx67⟩
          replace hxwl27 := Ex.tr hxwl27 hx67
          replace hE35 := Ex.tr hE35 hx67
          replace hE37 := Ex.tr hE37 hx67
          replace hE40 := Ex.tr hE40 hx67
          replace hE43 := Ex.tr hE43 hx67
          replace hE46 := Ex.tr hE46 hx67
          replace hE49 := Ex.tr hE49 hx67
          replace hE52 := Ex.tr hE52 hx67
          replace hE55 := Ex.tr hE55 hx67
          replace hE58 := Ex.tr hE58 hx67
          replace hE61 := Ex.tr hE61 hx67
          replace hE65 := Ex.tr hE65 hx67
          have hE68 := hx67
          refine RG.done ?_
          refine QW.an (fun _ => hE68) ?_
          refine AG.takeW 14 rfl (by kernel_rfl) (by kernel_rfl) rfl rfl rfl (fun _ => Ev.shrN rfl rfl rfl (by show _ ≤ 8; omega)) ?_
          refine AG.takeW 15 rfl (by kernel_rfl) (by kernel_rfl) rfl rfl rfl (fun _ => Ev.rem8 rfl rfl rfl (⟨Int.natCast_nonneg _, by omega⟩)) ?_
          refine AG.takeW 16 rfl (by kernel_rfl) (by kernel_rfl) rfl rfl rfl (fun _ => Ev.isF (Ev.neI rfl rfl rfl) (by omega)) ?_
          refine AG.takeW 17 rfl (by kernel_rfl) (by kernel_rfl) rfl rfl rfl (fun _ => Ev.pickF rfl rfl rfl) ?_
          refine AG.takeW 18 rfl (by kernel_rfl) (by kernel_rfl) rfl rfl rfl (fun _ => Ev.move rfl rfl) ?_
          refine AG.takeW 19 rfl (by kernel_rfl) (by kernel_rfl) rfl rfl rfl (fun _ => Ev.fld rfl rfl fld_30_1) ?_
          refine AG.take 20 rfl (by kernel_rfl) (by kernel_rfl) rfl rfl rfl (fun wq hq => Ev.ldAt rfl rfl Try.underlying9 rfl (((hb31.ext hE37).ext hq).cells) (rfl)) ?_
          refine AG.only 21 rfl (by kernel_rfl) ?_
          refine RG.call rfl rfl rfl rfl rfl rfl rfl en_11 (right_is r.lo true _ (by omega) (decide_eq_true n3)) ?_
          rintro _ w70 ⟨rfl, hx70⟩
          replace hxwl27 := Ex.tr hxwl27 hx70
          replace hE35 := Ex.tr hE35 hx70
          replace hE37 := Ex.tr hE37 hx70
          replace hE40 := Ex.tr hE40 hx70
          replace hE43 := Ex.tr hE43 hx70
          replace hE46 := Ex.tr hE46 hx70
          replace hE49 := Ex.tr hE49 hx70
          replace hE52 := Ex.tr hE52 hx70
          replace hE55 := Ex.tr hE55 hx70
          replace hE58 := Ex.tr hE58 hx70
          replace hE61 := Ex.tr hE61 hx70
          replace hE65 := Ex.tr hE65 hx70
          replace hE68 := Ex.tr hE68 hx70
          have hE71 := hx70
          refine RG.done ?_
          refine QW.an (fun _ => hE71) ?_
          refine AG.takeW 22 rfl (by kernel_rfl) (by kernel_rfl) rfl rfl rfl (fun _ => Ev.notF rfl rfl) ?_
          refine AG.takeW 23 rfl (by kernel_rfl) (by kernel_rfl) rfl rfl rfl (fun _ => Ev.pickF rfl rfl rfl) ?_
          refine AG.takeW 24 rfl (by kernel_rfl) (by kernel_rfl) rfl rfl rfl (fun _ => Ev.move rfl rfl) ?_
          refine AG.takeW 25 rfl (by kernel_rfl) (by kernel_rfl) rfl rfl rfl (fun _ => Ev.fld rfl rfl fld_30_2) ?_
          refine AG.take 26 rfl (by kernel_rfl) (by kernel_rfl) rfl rfl rfl (fun wq hq => Ev.ldAt rfl rfl Try.underlying9 rfl (((hb31.ext hE37).ext hq).cells) (rfl)) ?_
          refine AG.only 27 rfl (by kernel_rfl) ?_
          refine RG.call rfl rfl rfl rfl rfl rfl rfl en_11 (right_is r.sh true _ (by omega) (decide_eq_true n4)) ?_
          rintro _ w73 ⟨rfl, hx73⟩
          replace hxwl27 := Ex.tr hxwl27 hx73
          replace hE35 := Ex.tr hE35 hx73
          replace hE37 := Ex.tr hE37 hx73
          replace hE40 := Ex.tr hE40 hx73
          replace hE43 := Ex.tr hE43 hx73
          replace hE46 := Ex.tr hE46 hx73
          replace hE49 := Ex.tr hE49 hx73
          replace hE52 := Ex.tr hE52 hx73
          replace hE55 := Ex.tr hE55 hx73
          replace hE58 := Ex.tr hE58 hx73
          replace hE61 := Ex.tr hE61 hx73
          replace hE65 := Ex.tr hE65 hx73
          replace hE68 := Ex.tr hE68 hx73
          replace hE71 := Ex.tr hE71 hx73
          have hE74 := hx73
          refine RG.done ?_
          refine QW.an (fun _ => hE74) ?_
          refine AG.takeW 28 rfl (by kernel_rfl) (by kernel_rfl) rfl rfl rfl (fun _ => Ev.notF rfl rfl) ?_
          refine AG.takeW 29 rfl (by kernel_rfl) (by kernel_rfl) rfl rfl rfl (fun _ => Ev.pickF rfl rfl rfl) ?_
          refine AG.done (by kernel_rfl) ?_
          refine QW.sub (S' := [(0, _), (1, _), (7, _), (8, _), (139, _)]) ⟨rfl, rfl, rfl, rfl, rfl, trivial⟩ ?_
          refine QW.then_ ?_
          refine CW.condF rfl ?_
          refine CW.skip ?_
          refine QW.blockN ?_
          refine QW.then_ ?_
          refine CW.region ?_
          refine RG.vl rfl rfl rfl (Ev.move rfl rfl) ?_
          refine RG.vl rfl rfl rfl (Ev.addI rfl rfl rfl (by omega)) ?_
          refine RG.vl rfl rfl rfl (Ev.assign rfl rfl) ?_
          refine RG.done ?_
          refine QW.round1 (i + 1) ⟨rfl, trivial⟩ ⟨rfl, rfl, rfl, trivial⟩ ⟨by omega, hxwl27⟩ (by omega)
        · refine CW.exit ?_
          refine QW.thenExit ?_
          refine QW.thenExit ?_
          refine QW.blockHit ?_
          refine QW.then_ ?_
          refine CW.seq ?_
          rcases short_cases k a with hs | ⟨x, hs, hx1, hx2⟩
          · refine CW.region ?_
            refine RG.vl rfl rfl rfl (Ev.move rfl rfl) ?_
            refine RG.vl rfl rfl rfl (Ev.move rfl rfl) ?_
            refine RG.call rfl rfl rfl rfl rfl rfl rfl en_17 (short_is k a [] false _ hs) ?_
            rintro _ w75 ⟨rfl, hx75⟩
            replace hxwl27 := Ex.tr hxwl27 hx75
            have hE76 := hx75
            refine RG.vl rfl rfl rfl (Ev.move rfl rfl) ?_
            refine RG.vl rfl rfl rfl (Ev.extract rfl rfl rfl) ?_
            refine RG.vl rfl rfl rfl (Ev.extract rfl rfl rfl) ?_
            refine RG.vl rfl rfl rfl (Ev.assign rfl rfl) ?_
            refine RG.vl rfl rfl rfl (Ev.assign rfl rfl) ?_
            refine RG.done ?_
            refine QW.then_ ?_
            refine CW.seq ?_
            refine CW.region ?_
            refine RG.vl rfl rfl rfl (Ev.move rfl rfl) ?_
            refine RG.vl rfl rfl rfl (Ev.notT rfl rfl) ?_
            refine RG.vl rfl rfl rfl (Ev.move rfl rfl) ?_
            refine RG.vl rfl rfl rfl (Ev.move rfl rfl) ?_
            refine RG.vl rfl rfl rfl (Ev.isT (Ev.eqS rfl rfl rfl) (rfl)) ?_
            refine RG.vl rfl rfl rfl (Ev.pickT rfl rfl rfl) ?_
            refine RG.vl rfl rfl rfl (Ev.move rfl rfl) ?_
            refine RG.pass rfl rfl rfl ?_
            refine RG.pass rfl rfl rfl ?_
            refine RG.pass rfl rfl rfl ?_
            refine RG.pass rfl rfl rfl ?_
            refine RG.pass rfl rfl rfl ?_
            refine RG.pass rfl rfl rfl ?_
            refine RG.pass rfl rfl rfl ?_
            refine RG.pass rfl rfl rfl ?_
            refine RG.pass rfl rfl rfl ?_
            refine RG.pass rfl rfl rfl ?_
            refine RG.pass rfl rfl rfl ?_
            refine RG.pass rfl rfl rfl ?_
            refine RG.pass rfl rfl rfl ?_
            refine RG.pass rfl rfl rfl ?_
            refine RG.vl rfl rfl rfl (Ev.pickT rfl rfl rfl) ?_
            refine RG.vl rfl rfl rfl (Ev.assign rfl rfl) ?_
            refine RG.done ?_
            refine QW.sub (S' := [(6, _)]) ⟨rfl, trivial⟩ ?_
            refine QW.then_ ?_
            refine CW.ret ?_
            refine QW.ret1 rfl rfl ?_
            have hB := (Ex.tr hR21 hxwl27)
            exact ⟨rfl, hB⟩
          · refine CW.region ?_
            refine RG.vl rfl rfl rfl (Ev.move rfl rfl) ?_
            refine RG.vl rfl rfl rfl (Ev.move rfl rfl) ?_
            refine RG.call rfl rfl rfl rfl rfl rfl rfl en_17 (short_is k a x true _ hs) ?_
            rintro _ w77 ⟨rfl, hx77⟩
            replace hxwl27 := Ex.tr hxwl27 hx77
            have hE78 := hx77
            refine RG.vl rfl rfl rfl (Ev.move rfl rfl) ?_
            refine RG.vl rfl rfl rfl (Ev.extract rfl rfl rfl) ?_
            refine RG.vl rfl rfl rfl (Ev.extract rfl rfl rfl) ?_
            refine RG.vl rfl rfl rfl (Ev.assign rfl rfl) ?_
            refine RG.vl rfl rfl rfl (Ev.assign rfl rfl) ?_
            refine RG.done ?_
            refine QW.then_ ?_
            refine CW.seq ?_
            refine CW.region ?_
            refine RG.vl rfl rfl rfl (Ev.move rfl rfl) ?_
            refine RG.vl rfl rfl rfl (Ev.notF rfl rfl) ?_
            refine RG.vl rfl rfl rfl (Ev.move rfl rfl) ?_
            refine RG.pass rfl rfl rfl ?_
            refine RG.pass rfl rfl rfl ?_
            refine RG.vl rfl rfl rfl (Ev.pickF rfl rfl rfl) ?_
            refine RG.vl rfl rfl rfl (Ev.move rfl rfl) ?_
            refine RG.vl rfl rfl rfl (Ev.move rfl rfl) ?_
            refine RG.vl rfl rfl rfl (Ev.move rfl rfl) ?_
            refine RG.vl rfl rfl rfl (Ev.move rfl rfl) ?_
            refine RG.vl rfl rfl rfl (Ev.move rfl rfl) ?_
            refine RG.call rfl rfl rfl rfl rfl rfl rfl en_15 (longs_ret k x _) ?_
            have hpre79 := (Ex.tr hR21 hxwl27)
            rintro lv79 w79 ⟨hlv79, hx79⟩
            replace hxwl27 := Ex.tr hxwl27 hx79
            replace hE78 := Ex.tr hE78 hx79
            have hE80 := hx79
            refine RG.vl rfl rfl rfl (Ev.move rfl rfl) ?_
            refine RG.call rfl rfl rfl rfl rfl rfl rfl en_14 (lhas_is _ (longsR k x) a _ ((hlv79.rdl encT_len)) (by have := longs_len (k) (x); omega) hx1) ?_
            rintro _ w81 ⟨rfl, hx81⟩
            replace hxwl27 := Ex.tr hxwl27 hx81
            replace hE78 := Ex.tr hE78 hx81
            replace hE80 := Ex.tr hE80 hx81
            have hE82 := hx81
            refine RG.vl rfl rfl rfl (Ev.pickT rfl rfl rfl) ?_
            refine RG.vl rfl rfl rfl (Ev.move rfl rfl) ?_
            refine RG.vl rfl rfl rfl (Ev.move rfl rfl) ?_
            refine RG.vl rfl rfl rfl (Ev.move rfl rfl) ?_
            refine RG.vl rfl rfl rfl (Ev.move rfl rfl) ?_
            refine RG.call rfl rfl rfl rfl rfl rfl rfl en_12 (same_is k x a true _ (hx2)) ?_
            rintro _ w83 ⟨rfl, hx83⟩
            replace hxwl27 := Ex.tr hxwl27 hx83
            replace hE78 := Ex.tr hE78 hx83
            replace hE80 := Ex.tr hE80 hx83
            replace hE82 := Ex.tr hE82 hx83
            have hE84 := hx83
            refine RG.vl rfl rfl rfl (Ev.pickT rfl rfl rfl) ?_
            refine RG.vl rfl rfl rfl (Ev.pickF rfl rfl rfl) ?_
            refine RG.vl rfl rfl rfl (Ev.assign rfl rfl) ?_
            refine RG.done ?_
            refine QW.sub (S' := [(6, _)]) ⟨rfl, trivial⟩ ?_
            refine QW.then_ ?_
            refine CW.ret ?_
            refine QW.ret1 rfl rfl ?_
            have hB := (Ex.tr hR21 hxwl27)
            exact ⟨rfl, hB⟩
      · refine RG.pass rfl rfl rfl ?_
        refine RG.pass rfl rfl rfl ?_
        refine RG.pass rfl rfl rfl ?_
        refine RG.pass rfl rfl rfl ?_
        refine RG.pass rfl rfl rfl ?_
        refine RG.pass rfl rfl rfl ?_
        refine RG.pass rfl rfl rfl ?_
        refine RG.pass rfl rfl rfl ?_
        refine RG.vl rfl rfl rfl (Ev.pickF rfl rfl rfl) ?_
        refine RG.vl rfl rfl rfl (Ev.pickF rfl rfl rfl) ?_
        refine RG.done ?_
        refine QW.sub (S' := [(0, _), (1, _), (6, _), (51, _)]) ⟨rfl, rfl, rfl, rfl, trivial⟩ ?_
        refine QW.then_ ?_
        refine CW.condF rfl ?_
        refine CW.skip ?_
        refine QW.then_ ?_
        refine CW.seq ?_
        refine CW.region ?_
        have hR85 := (Ex.tr hB0 hE2)
        have hR86 := hE6
        have hR87 := hE8
        have hR88 := hE10
        refine RG.call rfl rfl rfl rfl rfl rfl rfl en_13 (table_ret _) ?_
        have hpre89 := hR85
        rintro tv w89 ⟨htb, hx89⟩
        have hE90 := hx89
        refine RG.vl rfl rfl rfl (Ev.assign rfl rfl) ?_
        refine RG.done ?_
        refine QW.then_ ?_
        refine CW.seq ?_
        refine CW.seq ?_
        refine CW.region ?_
        refine RG.vl rfl rfl rfl (Ev.assign rfl rfl) ?_
        refine RG.done ?_
        refine QW.then_ ?_
        refine CW.block ?_
        have hR91 := (Ex.tr hR85 hE90)
        have hR92 := (Ex.tr hR86 hE90)
        have hR93 := (Ex.tr hR87 hE90)
        have hR94 := (Ex.tr hR88 hE90)
        have hR95 := hE90
        refine CW.loop1 [(0, _), (1, _), (7, _)] ⟨rfl, rfl, rfl, trivial⟩ (fun (i : Nat) => [(8, .int .i64 i)]) (fun i w' => (i ≤ tab.length) ∧ Ex w89 w') (fun i => tab.length - i) (0) ⟨rfl, trivial⟩ ⟨Nat.zero_le _, (Ex.rfl_ _)⟩ ?_
        rintro i wl96 ⟨hi, hxwl96⟩
        refine CW.sub (S' := [(8, _), (0, _), (1, _), (7, _)]) ⟨rfl, rfl, rfl, rfl, trivial⟩ ?_
        have ht40 := tab40
        refine CW.seq ?_
        refine CW.seq ?_
        refine CW.region ?_
        refine RG.vl rfl rfl rfl (Ev.move rfl rfl) ?_
        refine RG.vl rfl rfl rfl (Ev.move rfl rfl) ?_
        refine RG.vl rfl rfl rfl (Ev.lenL rfl rfl rfl Try.underlying27 (((Own.ext htb hxwl96).rdl Rw.c_len))) ?_
        refine RG.vl rfl rfl rfl (Ev.lss rfl rfl rfl) ?_
        refine RG.done ?_
        refine QW.then_ ?_
        refine CW.condP rfl (fun hc97 => ?_) (fun hc97 => ?_)
        · refine CW.skip ?_
          refine QW.then_ ?_
          refine CW.seq ?_
          refine CW.block ?_
          refine CW.seq ?_
          obtain ⟨r, hr⟩ : ∃ r, tab[i]? = some r := ⟨_, List.getElem?_eq_getElem (by omega)⟩
          have hrt := List.mem_of_getElem? hr
          obtain ⟨m1, m2, m3, m4, m5⟩ := row_all hrt
          obtain ⟨n1, n2, n3, n4, n5⟩ := row_kinds hrt
          obtain ⟨n6, n7, n8⟩ := tab_k r hrt
          refine CW.region ?_
          refine RG.vl rfl rfl rfl (Ev.move rfl rfl) ?_
          refine RG.vl rfl rfl rfl (Ev.move rfl rfl) ?_
          refine RG.idxO rfl rfl rfl rfl rfl rfl Try.underlying27 sz_30 Rw.c_len ((Own.ext htb hxwl96)) (hr) (fun g99 hg99 hBg99 hp98b hp98 => ?_)
          refine RG.vl rfl rfl rfl (Ev.ldAgg rfl rfl Try.underlying30 rfl sz_30 rfl (hp98)) ?_
          refine RG.local_ rfl rfl rfl rfl (fun _ => rfl) rfl rfl (fun _ => rfl) inf_30 rfl rfl rfl (fun g100 w100 eg100 hx100 hb100 => ?_)
          have hsb101 := fun e => sep_new (g := g100) (Own.ext htb hxwl96) eg100 e
          have hle102 : w89.heap.size ≤ g100 := by have := hxwl96.size; omega
          have hle103 : wl96.heap.size ≤ g100 := by have := (Ex.rfl_ wl96).size; omega
          replace hxwl96 := Ex.tr hxwl96 hx100
          have hE104 := hx100
          refine RG.done ?_
          refine QW.then_ ?_
          refine CW.seq ?_
          refine CW.seq ?_
          refine CW.draw [] (.ex) 47 rfl mixed (fun wd105 hxwd105 => ?_)
          replace hxwl96 := Ex.tr hxwl96 hxwd105
          replace hE104 := Ex.tr hE104 hxwd105
          have hE106 := hxwd105
          refine AG.takeW 0 rfl (by kernel_rfl) (by kernel_rfl) rfl rfl rfl (fun _ => Ev.fld rfl rfl fld_30_0) ?_
          refine AG.take 1 rfl (by kernel_rfl) (by kernel_rfl) rfl rfl rfl (fun wq hq => Ev.ldAt rfl rfl Try.underlying5 rfl (((hb100.ext hE106).ext hq).cells) (rfl)) ?_
          refine AG.takeW 2 rfl (by kernel_rfl) (by kernel_rfl) rfl rfl rfl (fun _ => Ev.fld rfl rfl fld_30_2) ?_
          refine AG.take 3 rfl (by kernel_rfl) (by kernel_rfl) rfl rfl rfl (fun wq hq => Ev.ldAt rfl rfl Try.underlying9 rfl (((hb100.ext hE106).ext hq).cells) (rfl)) ?_
          refine AG.takeW 5 rfl (by kernel_rfl) (by kernel_rfl) rfl rfl rfl (fun _ => Ev.fld rfl rfl fld_30_1) ?_
          refine AG.take 6 rfl (by kernel_rfl) (by kernel_rfl) rfl rfl rfl (fun wq hq => Ev.ldAt rfl rfl Try.underlying9 rfl (((hb100.ext hE106).ext hq).cells) (rfl)) ?_
          refine AG.only 4 rfl (by kernel_rfl) ?_
          refine RG.call rfl rfl rfl rfl rfl rfl rfl en_15 (longs_ret r.k r.sh _) ?_
          have hpre108 := (Ex.tr hR91 hxwl96)
          rintro lv108 w108 ⟨hlv108, hx108⟩
          replace hxwl96 := Ex.tr hxwl96 hx108
          replace hE104 := Ex.tr hE104 hx108
          replace hE106 := Ex.tr hE106 hx108
          have hE109 := hx108
          refine RG.done ?_
          refine QW.an (fun _ => hE109) ?_
          refine AG.only 7 rfl (by kernel_rfl) ?_
          refine RG.call rfl rfl rfl rfl rfl rfl rfl en_14 (lhas_is _ (longsR r.k r.sh) r.lo _ ((hlv108.rdl encT_len)) (by have := longs_len (r.k) (r.sh); omega) m1) ?_
          rintro _ w111 ⟨rfl, hx111⟩
          replace hxwl96 := Ex.tr hxwl96 hx111
          replace hE104 := Ex.tr hE104 hx111
          replace hE106 := Ex.tr hE106 hx111
          replace hE109 := Ex.tr hE109 hx111
          have hE112 := hx111
          refine RG.done ?_
          refine QW.an (fun _ => hE112) ?_
          refine AG.takeW 8 rfl (by kernel_rfl) (by kernel_rfl) rfl rfl rfl (fun _ => Ev.notF rfl rfl) ?_
          refine AG.takeW 9 rfl (by kernel_rfl) (by kernel_rfl) rfl rfl rfl (fun _ => Ev.move rfl rfl) ?_
          refine AG.takeW 10 rfl (by kernel_rfl) (by kernel_rfl) rfl rfl rfl (fun _ => Ev.fld rfl rfl fld_30_0) ?_
          refine AG.take 11 rfl (by kernel_rfl) (by kernel_rfl) rfl rfl rfl (fun wq hq => Ev.ldAt rfl rfl Try.underlying5 rfl (((hb100.ext hE106).ext hq).cells) (rfl)) ?_
          refine AG.takeW 12 rfl (by kernel_rfl) (by kernel_rfl) rfl rfl rfl (fun _ => Ev.fld rfl rfl fld_30_1) ?_
          refine AG.take 13 rfl (by kernel_rfl) (by kernel_rfl) rfl rfl rfl (fun wq hq => Ev.ldAt rfl rfl Try.underlying9 rfl (((hb100.ext hE106).ext hq).cells) (rfl)) ?_
          refine AG.takeW 15 rfl (by kernel_rfl) (by kernel_rfl) rfl rfl rfl (fun _ => Ev.fld rfl rfl fld_30_1) ?_
          refine AG.take 16 rfl (by kernel_rfl) (by kernel_rfl) rfl rfl rfl (fun wq hq => Ev.ldAt rfl rfl Try.underlying9 rfl (((hb100.ext hE106).ext hq).cells) (rfl)) ?_
          refine AG.only 14 rfl (by kernel_rfl) ?_
          refine RG.call rfl rfl rfl rfl rfl rfl rfl en_15 (longs_ret r.k r.lo _) ?_
          have hpre114 := (Ex.tr hR91 hxwl96)
          rintro lv114 w114 ⟨hlv114, hx114⟩
          replace hxwl96 := Ex.tr hxwl96 hx114
          replace hE104 := Ex.tr hE104 hx114
          replace hE106 := Ex.tr hE106 hx114
          replace hE109 := Ex.tr hE109 hx114
          replace hE112 := Ex.tr hE112 hx114
          have hE115 := hx114
          refine RG.done ?_
          refine QW.an (fun _ => hE115) ?_
          refine AG.only 17 rfl (by kernel_rfl) ?_
          refine RG.call rfl rfl rfl rfl rfl rfl rfl en_14 (lhas_is _ (longsR r.k r.lo) r.lo _ ((hlv114.rdl encT_len)) (by have := longs_len (r.k) (r.lo); omega) m2) ?_
          rintro _ w117 ⟨rfl, hx117⟩
          replace hxwl96 := Ex.tr hxwl96 hx117
          replace hE104 := Ex.tr hE104 hx117
          replace hE106 := Ex.tr hE106 hx117
          replace hE109 := Ex.tr hE109 hx117
          replace hE112 := Ex.tr hE112 hx117
          replace hE115 := Ex.tr hE115 hx117
          have hE118 := hx117
          refine RG.done ?_
          refine QW.an (fun _ => hE118) ?_
          refine AG.takeW 18 rfl (by kernel_rfl) (by kernel_rfl) rfl rfl rfl (fun _ => Ev.notF rfl rfl) ?_
          refine AG.takeW 19 rfl (by kernel_rfl) (by kernel_rfl) rfl rfl rfl (fun _ => Ev.pickF rfl rfl rfl) ?_
          refine AG.takeW 20 rfl (by kernel_rfl) (by kernel_rfl) rfl rfl rfl (fun _ => Ev.move rfl rfl) ?_
          refine AG.takeW 21 rfl (by kernel_rfl) (by kernel_rfl) rfl rfl rfl (fun _ => Ev.fld rfl rfl fld_30_2) ?_
          refine AG.take 22 rfl (by kernel_rfl) (by kernel_rfl) rfl rfl rfl (fun wq hq => Ev.ldAt rfl rfl Try.underlying9 rfl (((hb100.ext hE106).ext hq).cells) (rfl)) ?_
          refine AG.takeW 24 rfl (by kernel_rfl) (by kernel_rfl) rfl rfl rfl (fun _ => Ev.fld rfl rfl fld_30_1) ?_
          refine AG.take 25 rfl (by kernel_rfl) (by kernel_rfl) rfl rfl rfl (fun wq hq => Ev.ldAt rfl rfl Try.underlying9 rfl (((hb100.ext hE106).ext hq).cells) (rfl)) ?_
          refine AG.only 23 rfl (by kernel_rfl) ?_
          refine RG.call rfl rfl rfl rfl rfl rfl rfl en_15 (longs_ret 0 r.sh _) ?_
          have hpre120 := (Ex.tr hR91 hxwl96)
          rintro lv120 w120 ⟨hlv120, hx120⟩
          replace hxwl96 := Ex.tr hxwl96 hx120
          replace hE104 := Ex.tr hE104 hx120
          replace hE106 := Ex.tr hE106 hx120
          replace hE109 := Ex.tr hE109 hx120
          replace hE112 := Ex.tr hE112 hx120
          replace hE115 := Ex.tr hE115 hx120
          replace hE118 := Ex.tr hE118 hx120
          have hE121 := hx120
          refine RG.done ?_
          refine QW.an (fun _ => hE121) ?_
          refine AG.only 26 rfl (by kernel_rfl) ?_
          refine RG.call rfl rfl rfl rfl rfl rfl rfl en_14 (lhas_is _ (longsR 0 r.sh) r.lo _ ((hlv120.rdl encT_len)) (by have := longs_len (0) (r.sh); omega) m3) ?_
          rintro _ w123 ⟨rfl, hx123⟩
          replace hxwl96 := Ex.tr hxwl96 hx123
          replace hE104 := Ex.tr hE104 hx123
          replace hE106 := Ex.tr hE106 hx123
          replace hE109 := Ex.tr hE109 hx123
          replace hE112 := Ex.tr hE112 hx123
          replace hE115 := Ex.tr hE115 hx123
          replace hE118 := Ex.tr hE118 hx123
          replace hE121 := Ex.tr hE121 hx123
          have hE124 := hx123
          refine RG.done ?_
          refine QW.an (fun _ => hE124) ?_
          refine AG.takeW 27 rfl (by kernel_rfl) (by kernel_rfl) rfl rfl rfl (fun _ => Ev.notF rfl rfl) ?_
          refine AG.takeW 28 rfl (by kernel_rfl) (by kernel_rfl) rfl rfl rfl (fun _ => Ev.pickF rfl rfl rfl) ?_
          refine AG.takeW 29 rfl (by kernel_rfl) (by kernel_rfl) rfl rfl rfl (fun _ => Ev.move rfl rfl) ?_
          refine AG.takeW 30 rfl (by kernel_rfl) (by kernel_rfl) rfl rfl rfl (fun _ => Ev.fld rfl rfl fld_30_0) ?_
          refine AG.take 31 rfl (by kernel_rfl) (by kernel_rfl) rfl rfl rfl (fun wq hq => Ev.ldAt rfl rfl Try.underlying5 rfl (((hb100.ext hE106).ext hq).cells) (rfl)) ?_
          refine AG.takeW 32 rfl (by kernel_rfl) (by kernel_rfl) rfl rfl rfl (fun _ => Ev.fld rfl rfl fld_30_1) ?_
          refine AG.take 33 rfl (by kernel_rfl) (by kernel_rfl) rfl rfl rfl (fun wq hq => Ev.ldAt rfl rfl Try.underlying9 rfl (((hb100.ext hE106).ext hq).cells) (rfl)) ?_
          refine AG.takeW 34 rfl (by kernel_rfl) (by kernel_rfl) rfl rfl rfl (fun _ => Ev.fld rfl rfl fld_30_2) ?_
          refine AG.take 35 rfl (by kernel_rfl) (by kernel_rfl) rfl rfl rfl (fun wq hq => Ev.ldAt rfl rfl Try.underlying9 rfl (((hb100.ext hE106).ext hq).cells) (rfl)) ?_
          refine AG.only 36 rfl (by kernel_rfl) ?_
          refine RG.call rfl rfl rfl rfl rfl rfl rfl en_12 (same_is r.k r.lo r.sh true _ (m4)) ?_
          rintro _ w126 ⟨rfl, hx126⟩
          replace hxwl96 := Ex.tr hxwl96 hx126
          replace hE104 := Ex.tr hE104 hx126
          replace hE106 := Ex.tr hE106 hx126
          replace hE109 := Ex.tr hE109 hx126
          replace hE112 := Ex.tr hE112 hx126
          replace hE115 := Ex.tr hE115 hx126
          replace hE118 := Ex.tr hE118 hx126
          replace hE121 := Ex.tr hE121 hx126
          replace hE124 := Ex.tr hE124 hx126
          have hE127 := hx126
          refine RG.done ?_
          refine QW.an (fun _ => hE127) ?_
          refine AG.takeW 37 rfl (by kernel_rfl) (by kernel_rfl) rfl rfl rfl (fun _ => Ev.notF rfl rfl) ?_
          refine AG.takeW 38 rfl (by kernel_rfl) (by kernel_rfl) rfl rfl rfl (fun _ => Ev.pickF rfl rfl rfl) ?_
          refine AG.takeW 39 rfl (by kernel_rfl) (by kernel_rfl) rfl rfl rfl (fun _ => Ev.move rfl rfl) ?_
          refine AG.takeW 40 rfl (by kernel_rfl) (by kernel_rfl) rfl rfl rfl (fun _ => Ev.fld rfl rfl fld_30_2) ?_
          refine AG.take 41 rfl (by kernel_rfl) (by kernel_rfl) rfl rfl rfl (fun wq hq => Ev.ldAt rfl rfl Try.underlying9 rfl (((hb100.ext hE106).ext hq).cells) (rfl)) ?_
          refine AG.takeW 42 rfl (by kernel_rfl) (by kernel_rfl) rfl rfl rfl (fun _ => Ev.fld rfl rfl fld_30_1) ?_
          refine AG.take 43 rfl (by kernel_rfl) (by kernel_rfl) rfl rfl rfl (fun wq hq => Ev.ldAt rfl rfl Try.underlying9 rfl (((hb100.ext hE106).ext hq).cells) (rfl)) ?_
          refine AG.only 44 rfl (by kernel_rfl) ?_
          refine RG.call rfl rfl rfl rfl rfl rfl rfl en_12 (same_is 0 r.sh r.lo true _ (m5)) ?_
          rintro _ w129 ⟨rfl, hx129⟩
          replace hxwl96 := Ex.tr hxwl96 hx129
          replace hE104 := Ex.tr hE104 hx129
          replace hE106 := Ex.tr hE106 hx129
          replace hE109 := Ex.tr hE109 hx129
          replace hE112 := Ex.tr hE112 hx129
          replace hE115 := Ex.tr hE115 hx129
          replace hE118 := Ex.tr hE118 hx129
          replace hE121 := Ex.tr hE121 hx129
          replace hE124 := Ex.tr hE124 hx129
          replace hE127 := Ex.tr hE127 hx129
          have hE130 := hx129
          refine RG.done ?_
          refine QW.an (fun _ => hE130) ?_
          refine AG.takeW 45 rfl (by kernel_rfl) (by kernel_rfl) rfl rfl rfl (fun _ => Ev.notF rfl rfl) ?_
          refine AG.takeW 46 rfl (by kernel_rfl) (by kernel_rfl) rfl rfl rfl (fun _ => Ev.pickF rfl rfl rfl) ?_
          refine AG.done (by kernel_rfl) ?_
          refine QW.sub (S' := [(0, _), (1, _), (7, _), (8, _), (9, _), (109, _)]) ⟨rfl, rfl, rfl, rfl, rfl, rfl, trivial⟩ ?_
          refine QW.then_ ?_
          refine CW.condF rfl ?_
          refine CW.skip ?_
          refine QW.then_ ?_
          refine CW.seq ?_
          refine CW.draw [] (.ex) 30 rfl mixed (fun wd131 hxwd131 => ?_)
          replace hxwl96 := Ex.tr hxwl96 hxwd131
          replace hE104 := Ex.tr hE104 hxwd131
          replace hE106 := Ex.tr hE106 hxwd131
          replace hE109 := Ex.tr hE109 hxwd131
          replace hE112 := Ex.tr hE112 hxwd131
          replace hE115 := Ex.tr hE115 hxwd131
          replace hE118 := Ex.tr hE118 hxwd131
          replace hE121 := Ex.tr hE121 hxwd131
          replace hE124 := Ex.tr hE124 hxwd131
          replace hE127 := Ex.tr hE127 hxwd131
          replace hE130 := Ex.tr hE130 hxwd131
          refine AG.takeW 0 rfl (by kernel_rfl) (by kernel_rfl) rfl rfl rfl (fun _ => Ev.fld rfl rfl fld_30_1) ?_
          refine AG.take 1 rfl (by kernel_rfl) (by kernel_rfl) rfl rfl rfl (fun wq hq => Ev.ldAt rfl rfl Try.underlying9 rfl (((hb100.ext hE106).ext hq).cells) (rfl)) ?_
          refine AG.takeW 3 rfl (by kernel_rfl) (by kernel_rfl) rfl rfl rfl (fun _ => Ev.fld rfl rfl fld_30_0) ?_
          refine AG.take 4 rfl (by kernel_rfl) (by kernel_rfl) rfl rfl rfl (fun wq hq => Ev.ldAt rfl rfl Try.underlying5 rfl (((hb100.ext hE106).ext hq).cells) (rfl)) ?_
          refine AG.only 2 rfl (by kernel_rfl) ?_
          refine RG.call rfl rfl rfl rfl rfl rfl rfl en_16 (kinds_ret r.lo _) ?_
          rintro _ w133 ⟨rfl, hx133⟩
          replace hxwl96 := Ex.tr hxwl96 hx133
          replace hE104 := Ex.tr hE104 hx133
          replace hE106 := Ex.tr hE106 hx133
          replace hE109 := Ex.tr hE109 hx133
          replace hE112 := Ex.tr hE112 hx133
          replace hE115 := Ex.tr hE115 hx133
          replace hE118 := Ex.tr hE118 hx133
          replace hE121 := Ex.tr hE121 hx133
          replace hE124 := Ex.tr hE124 hx133
          replace hE127 := Ex.tr hE127 hx133
          replace hE130 := Ex.tr hE130 hx133
          have hE134 := hx133
          refine RG.done ?_
          refine QW.an (fun _ => hE134) ?_
          refine AG.takeW 5 rfl (by kernel_rfl) (by kernel_rfl) rfl rfl rfl (fun _ => Ev.shrN rfl rfl rfl (by show _ ≤ 8; omega)) ?_
          refine AG.takeW 6 rfl (by kernel_rfl) (by kernel_rfl) rfl rfl rfl (fun _ => Ev.rem8 rfl rfl rfl (⟨Int.natCast_nonneg _, by omega⟩)) ?_
          refine AG.takeW 7 rfl (by kernel_rfl) (by kernel_rfl) rfl rfl rfl (fun _ => Ev.isF (Ev.neI rfl rfl rfl) (by omega)) ?_
          refine AG.takeW 8 rfl (by kernel_rfl) (by kernel_rfl) rfl rfl rfl (fun _ => Ev.move rfl rfl) ?_
          refine AG.takeW 9 rfl (by kernel_rfl) (by kernel_rfl) rfl rfl rfl (fun _ => Ev.fld rfl rfl fld_30_2) ?_
          refine AG.take 10 rfl (by kernel_rfl) (by kernel_rfl) rfl rfl rfl (fun wq hq => Ev.ldAt rfl rfl Try.underlying9 rfl (((hb100.ext hE106).ext hq).cells) (rfl)) ?_
          refine AG.takeW 12 rfl (by kernel_rfl) (by kernel_rfl) rfl rfl rfl (fun _ => Ev.fld rfl rfl fld_30_0) ?_
          refine AG.take 13 rfl (by kernel_rfl) (by kernel_rfl) rfl rfl rfl (fun wq hq => Ev.ldAt rfl rfl Try.underlying5 rfl (((hb100.ext hE106).ext hq).cells) (rfl)) ?_
          refine AG.only 11 rfl (by kernel_rfl) ?_
          refine RG.call rfl rfl rfl rfl rfl rfl rfl en_16 (kinds_ret r.sh _) ?_
          rintro _ w136 ⟨rfl, hx136⟩
          replace hxwl96 := Ex.tr hxwl96 hx136
          replace hE104 := Ex.tr hE104 hx136
          replace hE106 := Ex.tr hE106 hx136
          replace hE109 := Ex.tr hE109 hx136
          replace hE112 := Ex.tr hE112 hx136
          replace hE115 := Ex.tr hE115 hx136
          replace hE118 := Ex.tr hE118 hx136
          replace hE121 := Ex.tr hE121 hx136
          replace hE124 := Ex.tr hE124 hx136
          replace hE127 := Ex.tr hE127 hx136
          replace hE130 := Ex.tr hE130 hx136
          replace hE134 := Ex.tr hE134 hx136
          have hE137 := hx136
          refine RG.done ?_
          refine QW.an (fun _ => hE137) ?_
          refine AG.takeW 14 rfl (by kernel_rfl) (by kernel_rfl) rfl rfl rfl (fun _ => Ev.shrN rfl rfl rfl (by show _ ≤ 8; omega)) ?_
          refine AG.takeW 15 rfl (by kernel_rfl) (by kernel_rfl) rfl rfl rfl (fun _ => Ev.rem8 rfl rfl rfl (⟨Int.natCast_nonneg _, by omega⟩)) ?_
          refine AG.takeW 16 rfl (by kernel_rfl) (by kernel_rfl) rfl rfl rfl (fun _ => Ev.isF (Ev.neI rfl rfl rfl) (by omega)) ?_
          refine AG.takeW 17 rfl (by kernel_rfl) (by kernel_rfl) rfl rfl rfl (fun _ => Ev.pickF rfl rfl rfl) ?_
          refine AG.takeW 18 rfl (by kernel_rfl) (by kernel_rfl) rfl rfl rfl (fun _ => Ev.move rfl rfl) ?_
          refine AG.takeW 19 rfl (by kernel_rfl) (by kernel_rfl) rfl rfl rfl (fun _ => Ev.fld rfl rfl fld_30_1) ?_
          refine AG.take 20 rfl (by kernel_rfl) (by kernel_rfl) rfl rfl rfl (fun wq hq => Ev.ldAt rfl rfl Try.underlying9 rfl (((hb100.ext hE106).ext hq).cells) (rfl)) ?_
          refine AG.only 21 rfl (by kernel_rfl) ?_
          refine RG.call rfl rfl rfl rfl rfl rfl rfl en_11 (right_is r.lo true _ (by omega) (decide_eq_true n3)) ?_
          rintro _ w139 ⟨rfl, hx139⟩
          replace hxwl96 := Ex.tr hxwl96 hx139
          replace hE104 := Ex.tr hE104 hx139
          replace hE106 := Ex.tr hE106 hx139
          replace hE109 := Ex.tr hE109 hx139
          replace hE112 := Ex.tr hE112 hx139
          replace hE115 := Ex.tr hE115 hx139
          replace hE118 := Ex.tr hE118 hx139
          replace hE121 := Ex.tr hE121 hx139
          replace hE124 := Ex.tr hE124 hx139
          replace hE127 := Ex.tr hE127 hx139
          replace hE130 := Ex.tr hE130 hx139
          replace hE134 := Ex.tr hE134 hx139
          replace hE137 := Ex.tr hE137 hx139
          have hE140 := hx139
          refine RG.done ?_
          refine QW.an (fun _ => hE140) ?_
          refine AG.takeW 22 rfl (by kernel_rfl) (by kernel_rfl) rfl rfl rfl (fun _ => Ev.notF rfl rfl) ?_
          refine AG.takeW 23 rfl (by kernel_rfl) (by kernel_rfl) rfl rfl rfl (fun _ => Ev.pickF rfl rfl rfl) ?_
          refine AG.takeW 24 rfl (by kernel_rfl) (by kernel_rfl) rfl rfl rfl (fun _ => Ev.move rfl rfl) ?_
          refine AG.takeW 25 rfl (by kernel_rfl) (by kernel_rfl) rfl rfl rfl (fun _ => Ev.fld rfl rfl fld_30_2) ?_
          refine AG.take 26 rfl (by kernel_rfl) (by kernel_rfl) rfl rfl rfl (fun wq hq => Ev.ldAt rfl rfl Try.underlying9 rfl (((hb100.ext hE106).ext hq).cells) (rfl)) ?_
          refine AG.only 27 rfl (by kernel_rfl) ?_
          refine RG.call rfl rfl rfl rfl rfl rfl rfl en_11 (right_is r.sh true _ (by omega) (decide_eq_true n4)) ?_
          rintro _ w142 ⟨rfl, hx142⟩
          replace hxwl96 := Ex.tr hxwl96 hx142
          replace hE104 := Ex.tr hE104 hx142
          replace hE106 := Ex.tr hE106 hx142
          replace hE109 := Ex.tr hE109 hx142
          replace hE112 := Ex.tr hE112 hx142
          replace hE115 := Ex.tr hE115 hx142
          replace hE118 := Ex.tr hE118 hx142
          replace hE121 := Ex.tr hE121 hx142
          replace hE124 := Ex.tr hE124 hx142
          replace hE127 := Ex.tr hE127 hx142
          replace hE130 := Ex.tr hE130 hx142
          replace hE134 := Ex.tr hE134 hx142
          replace hE137 := Ex.tr hE137 hx142
          replace hE140 := Ex.tr hE140 hx142
          have hE143 := hx142
          refine RG.done ?_
          refine QW.an (fun _ => hE143) ?_
          refine AG.takeW 28 rfl (by kernel_rfl) (by kernel_rfl) rfl rfl rfl (fun _ => Ev.notF rfl rfl) ?_
          refine AG.takeW 29 rfl (by kernel_rfl) (by kernel_rfl) rfl rfl rfl (fun _ => Ev.pickF rfl rfl rfl) ?_
          refine AG.done (by kernel_rfl) ?_
          refine QW.sub (S' := [(0, _), (1, _), (7, _), (8, _), (139, _)]) ⟨rfl, rfl, rfl, rfl, rfl, trivial⟩ ?_
          refine QW.then_ ?_
          refine CW.condF rfl ?_
          refine CW.skip ?_
          refine QW.blockN ?_
          refine QW.then_ ?_
          refine CW.region ?_
          refine RG.vl rfl rfl rfl (Ev.move rfl rfl) ?_
          refine RG.vl rfl rfl rfl (Ev.addI rfl rfl rfl (by omega)) ?_
          refine RG.vl rfl rfl rfl (Ev.assign rfl rfl) ?_
          refine RG.done ?_
          refine QW.round1 (i + 1) ⟨rfl, trivial⟩ ⟨rfl, rfl, rfl, trivial⟩ ⟨by omega, hxwl96⟩ (by omega)
        · refine CW.exit ?_
          refine QW.thenExit ?_
          refine QW.thenExit ?_
          refine QW.blockHit ?_
          refine QW.then_ ?_
          refine CW.seq ?_
          rcases short_cases k a with hs | ⟨x, hs, hx1, hx2⟩
          · refine CW.region ?_
            refine RG.vl rfl rfl rfl (Ev.move rfl rfl) ?_
            refine RG.vl rfl rfl rfl (Ev.move rfl rfl) ?_
            refine RG.call rfl rfl rfl rfl rfl rfl rfl en_17 (short_is k a [] false _ hs) ?_
            rintro _ w144 ⟨rfl, hx144⟩
            replace hxwl96 := Ex.tr hxwl96 hx144
            have hE145 := hx144
            refine RG.vl rfl rfl rfl (Ev.move rfl rfl) ?_
            refine RG.vl rfl rfl rfl (Ev.extract rfl rfl rfl) ?_
            refine RG.vl rfl rfl rfl (Ev.extract rfl rfl rfl) ?_
            refine RG.vl rfl rfl rfl (Ev.assign rfl rfl) ?_
            refine RG.vl rfl rfl rfl (Ev.assign rfl rfl) ?_
            refine RG.done ?_
            refine QW.then_ ?_
            refine CW.seq ?_
            refine CW.region ?_
            refine RG.vl rfl rfl rfl (Ev.move rfl rfl) ?_
            refine RG.vl rfl rfl rfl (Ev.notT rfl rfl) ?_
            refine RG.vl rfl rfl rfl (Ev.move rfl rfl) ?_
            refine RG.vl rfl rfl rfl (Ev.move rfl rfl) ?_
            refine RG.vl rfl rfl rfl (Ev.isT (Ev.eqS rfl rfl rfl) (rfl)) ?_
            refine RG.vl rfl rfl rfl (Ev.pickT rfl rfl rfl) ?_
            refine RG.vl rfl rfl rfl (Ev.move rfl rfl) ?_
            refine RG.pass rfl rfl rfl ?_
            refine RG.pass rfl rfl rfl ?_
            refine RG.pass rfl rfl rfl ?_
            refine RG.pass rfl rfl rfl ?_
            refine RG.pass rfl rfl rfl ?_
            refine RG.pass rfl rfl rfl ?_
            refine RG.pass rfl rfl rfl ?_
            refine RG.pass rfl rfl rfl ?_
            refine RG.pass rfl rfl rfl ?_
            refine RG.pass rfl rfl rfl ?_
            refine RG.pass rfl rfl rfl ?_
            refine RG.pass rfl rfl rfl ?_
            refine RG.pass rfl rfl rfl ?_
            refine RG.pass rfl rfl rfl ?_
            refine RG.vl rfl rfl rfl (Ev.pickT rfl rfl rfl) ?_
            refine RG.vl rfl rfl rfl (Ev.assign rfl rfl) ?_
            refine RG.done ?_
            refine QW.sub (S' := [(6, _)]) ⟨rfl, trivial⟩ ?_
            refine QW.then_ ?_
            refine CW.ret ?_
            refine QW.ret1 rfl rfl ?_
            have hB := (Ex.tr hR91 hxwl96)
            exact ⟨rfl, hB⟩
          · refine CW.region ?_
            refine RG.vl rfl rfl rfl (Ev.move rfl rfl) ?_
            refine RG.vl rfl rfl rfl (Ev.move rfl rfl) ?_
            refine RG.call rfl rfl rfl rfl rfl rfl rfl en_17 (short_is k a x true _ hs) ?_
            rintro _ w146 ⟨rfl, hx146⟩
            replace hxwl96 := Ex.tr hxwl96 hx146
            have hE147 := hx146
            refine RG.vl rfl rfl rfl (Ev.move rfl rfl) ?_
            refine RG.vl rfl rfl rfl (Ev.extract rfl rfl rfl) ?_
            refine RG.vl rfl rfl rfl (Ev.extract rfl rfl rfl) ?_
            refine RG.vl rfl rfl rfl (Ev.assign rfl rfl) ?_
            refine RG.vl rfl rfl rfl (Ev.assign rfl rfl) ?_
            refine RG.done ?_
            refine QW.then_ ?_
            refine CW.seq ?_
            refine CW.region ?_
            refine RG.vl rfl rfl rfl (Ev.move rfl rfl) ?_
            refine RG.vl rfl rfl rfl (Ev.notF rfl rfl) ?_
            refine RG.vl rfl rfl rfl (Ev.move rfl rfl) ?_
            refine RG.pass rfl rfl rfl ?_
            refine RG.pass rfl rfl rfl ?_
            refine RG.vl rfl rfl rfl (Ev.pickF rfl rfl rfl) ?_
            refine RG.vl rfl rfl rfl (Ev.move rfl rfl) ?_
            refine RG.vl rfl rfl rfl (Ev.move rfl rfl) ?_
            refine RG.vl rfl rfl rfl (Ev.move rfl rfl) ?_
            refine RG.vl rfl rfl rfl (Ev.move rfl rfl) ?_
            refine RG.vl rfl rfl rfl (Ev.move rfl rfl) ?_
            refine RG.call rfl rfl rfl rfl rfl rfl rfl en_15 (longs_ret k x _) ?_
            have hpre148 := (Ex.tr hR91 hxwl96)
            rintro lv148 w148 ⟨hlv148, hx148⟩
            replace hxwl96 := Ex.tr hxwl96 hx148
            replace hE147 := Ex.tr hE147 hx148
            have hE149 := hx148
            refine RG.vl rfl rfl rfl (Ev.move rfl rfl) ?_
            refine RG.call rfl rfl rfl rfl rfl rfl rfl en_14 (lhas_is _ (longsR k x) a _ ((hlv148.rdl encT_len)) (by have := longs_len (k) (x); omega) hx1) ?_
            rintro _ w150 ⟨rfl, hx150⟩
            replace hxwl96 := Ex.tr hxwl96 hx150
            replace hE147 := Ex.tr hE147 hx150
            replace hE149 := Ex.tr hE149 hx150
            have hE151 := hx150
            refine RG.vl rfl rfl rfl (Ev.pickT rfl rfl rfl) ?_
            refine RG.vl rfl rfl rfl (Ev.move rfl rfl) ?_
            refine RG.vl rfl rfl rfl (Ev.move rfl rfl) ?_
            refine RG.vl rfl rfl rfl (Ev.move rfl rfl) ?_
            refine RG.vl rfl rfl rfl (Ev.move rfl rfl) ?_
            refine RG.call rfl rfl rfl rfl rfl rfl rfl en_12 (same_is k x a true _ (hx2)) ?_
            rintro _ w152 ⟨rfl, hx152⟩
            replace hxwl96 := Ex.tr hxwl96 hx152
            replace hE147 := Ex.tr hE147 hx152
            replace hE149 := Ex.tr hE149 hx152
            replace hE151 := Ex.tr hE151 hx152
            have hE153 := hx152
            refine RG.vl rfl rfl rfl (Ev.pickT rfl rfl rfl) ?_
            refine RG.vl rfl rfl rfl (Ev.pickF rfl rfl rfl) ?_
            refine RG.vl rfl rfl rfl (Ev.assign rfl rfl) ?_
            refine RG.done ?_
            refine QW.sub (S' := [(6, _)]) ⟨rfl, trivial⟩ ?_
            refine QW.then_ ?_
            refine CW.ret ?_
            refine QW.ret1 rfl rfl ?_
            have hB := (Ex.tr hR91 hxwl96)
            exact ⟨rfl, hB⟩

end Go.Proofs.Ytlbcjhbdkeeahaa
