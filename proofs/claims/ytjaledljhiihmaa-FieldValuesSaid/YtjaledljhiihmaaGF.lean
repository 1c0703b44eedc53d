/- Walks (GF). Written by program. -/
import Derived.Test.YtjaledljhiihmaaT
import Derived.Test.YtjaledljhiihmaaGE
namespace Go.Proofs.Ytjaledljhiihmaa
open Go.RowKit
set_option maxRecDepth 100000 in
set_option maxHeartbeats 2000000 in
theorem rdiv_ret (u0 v0 : Value) (p q : List Nat) (w : World) (hl : RdL w 1 encN u0 p) (hm : RdL w 1 encN v0 q) (hlen : p.length ≤ 40000) (hlen2 : q.length ≤ 40000) (hp : El p) (hq : El q) (hq0 : 0 < dg q) :
    Ret Try.prog 43 [u0, v0] w (fun v w' => ∃ r1 r2 d r, v = .tuple #[r1, r2] ∧ RdL w' 1 encN r1 d ∧ RdL w' 1 encN r2 r ∧ IsDiv p q d r ∧ tr d = d ∧ tr r = r ∧ El d ∧ El r ∧ Ex w w') := by
  have hB0 : Ex w w := Ex.rfl_ _
  refine Ret.of Try.func43 rfl Try.ntmps43 rfl ?_
  refine CW.seq ?_
  refine CW.region ?_
  refine RG.vl rfl rfl rfl (Ev.assign rfl rfl) ?_
  refine RG.vl rfl rfl rfl (Ev.assign rfl rfl) ?_
  refine RG.done ?_
  refine QW.then_ ?_
  refine CW.seq ?_
  refine CW.region ?_
  refine RG.vl rfl rfl rfl (Ev.assign rfl rfl) ?_
  refine RG.done ?_
  refine QW.then_ ?_
  refine CW.seq ?_
  refine CW.region ?_
  refine RG.vl rfl rfl rfl (Ev.move rfl rfl) ?_
  refine RG.call rfl rfl rfl rfl rfl rfl rfl en_40 (rtrim_ret _ _ _ (hl) (by omega)) ?_
  have hpre1 := hB0
  rintro vrt1 w1 ⟨hrt1, hx1⟩
  have hE2 := hx1
  refine RG.vl rfl rfl rfl (Ev.assign rfl rfl) ?_
  refine RG.done ?_
  refine QW.then_ ?_
  refine CW.seq ?_
  refine CW.block ?_
  replace hl := (hl.ext hE2)
  replace hm := (hm.ext hE2)
  have hR3 := (Ex.tr hB0 hE2)
  refine CW.loop4 [(1, _), (4, _), (5, _)] ⟨rfl, rfl, rfl, trivial⟩ (fun (ud : Value) (D : List Nat) (ur : Value) (R : List Nat) => [(6, ud), (7, ur)]) (fun ud D ur R w' => (Rdv p q D R ∧ RdL w' 1 encN ud D ∧ RdL w' 1 encN ur R) ∧ Ex w1 w') (fun ud D ur R => dg R) (.slice none 0 0) ([]) (_) (tr p) ⟨rfl, rfl, trivial⟩ ⟨⟨rdv_start hp, RdL.nil_ _, hrt1.rdl encN_len⟩, (Ex.rfl_ _)⟩ ?_
  rintro ud D ur R wl4 ⟨⟨hdv, hD, hR⟩, hxwl4⟩
  refine CW.sub (S' := [(6, _), (7, _), (1, _), (4, _), (5, _)]) ⟨rfl, rfl, rfl, rfl, rfl, trivial⟩ ?_
  have hdp := dg_len p
  have hdq := dg_len q
  have hD1 := dg_of_tr hdv.dt
  have hR1 := dg_of_tr hdv.rt
  have hDd := hdv.dd
  have hRd := hdv.rd
  refine CW.seq ?_
  refine CW.seq ?_
  refine CW.region ?_
  refine RG.vl rfl rfl rfl (Ev.move rfl rfl) ?_
  refine RG.call rfl rfl rfl rfl rfl rfl rfl en_30 (rdeg_ret _ _ _ (hR) (by omega)) ?_
  rintro _ w5 ⟨rfl, hx5⟩
  replace hxwl4 := Ex.tr hxwl4 hx5
  have hE6 := hx5
  refine RG.vl rfl rfl rfl (Ev.move rfl rfl) ?_
  refine RG.call rfl rfl rfl rfl rfl rfl rfl en_30 (rdeg_ret _ _ _ ((hm.ext hxwl4)) (by omega)) ?_
  rintro _ w7 ⟨rfl, hx7⟩
  replace hxwl4 := Ex.tr hxwl4 hx7
  replace hE6 := Ex.tr hE6 hx7
  have hE8 := hx7
  refine RG.vl rfl rfl rfl (Ev.geq rfl rfl rfl) ?_
  refine RG.done ?_
  refine QW.then_ ?_
  refine CW.condP rfl (fun hc9 => ?_) (fun hc9 => ?_)
  · refine CW.skip ?_
    refine QW.then_ ?_
    refine CW.block ?_
    refine CW.seq ?_
    have hge : dg q ≤ dg R := by omega
    have hRt : R[dg R - 1]? = some (cf R (dg R - 1)) := getElem?_cf (by omega)
    have hqt : q[dg q - 1]? = some (cf q (dg q - 1)) := getElem?_cf (by omega)
    have hR64 := hdv.re.cf (dg R - 1)
    have hq64 := hq.cf (dg q - 1)
    have hgi := (gi_lt (cf q (dg q - 1))).2
    have hq00 := cf_top q hq0
    have hC64 : (gm (cf R (dg R - 1)) (gi (cf q (dg q - 1)))) < 64 := gm_lt _ _
    obtain ⟨hst, hstl⟩ := rdv_step hq hq0 hdv hge
    have h1e : El [1] := el1 (by omega)
    have hDe := hdv.de
    have hRe := hdv.re
    have h1l : [1].length = 1 := rfl
    have hs1 := shl_len [1] (gm (cf R (dg R - 1)) (gi (cf q (dg q - 1)))) (dg R - dg q)
    have hs2 := shl_len q (gm (cf R (dg R - 1)) (gi (cf q (dg q - 1)))) (dg R - dg q)
    refine CW.region ?_
    refine RG.vl rfl rfl rfl (Ev.move rfl rfl) ?_
    refine RG.call rfl rfl rfl rfl rfl rfl rfl en_30 (rdeg_ret _ _ _ ((hR.ext hE6)) (by omega)) ?_
    rintro _ w10 ⟨rfl, hx10⟩
    replace hxwl4 := Ex.tr hxwl4 hx10
    replace hE6 := Ex.tr hE6 hx10
    replace hE8 := Ex.tr hE8 hx10
    have hE11 := hx10
    refine RG.vl rfl rfl rfl (Ev.move rfl rfl) ?_
    refine RG.call rfl rfl rfl rfl rfl rfl rfl en_30 (rdeg_ret _ _ _ ((hm.ext hxwl4)) (by omega)) ?_
    rintro _ w12 ⟨rfl, hx12⟩
    replace hxwl4 := Ex.tr hxwl4 hx12
    replace hE6 := Ex.tr hE6 hx12
    replace hE8 := Ex.tr hE8 hx12
    replace hE11 := Ex.tr hE11 hx12
    have hE13 := hx12
    refine RG.vl rfl rfl rfl ((Ev.subI rfl rfl rfl (by omega)).conv (congrArg (Value.int .i64) (show (dg R : Int) - 1 - ((dg q : Int) - 1) = ((dg R - dg q : Nat) : Int) by omega))) ?_
    refine RG.vl rfl rfl rfl (Ev.assign rfl rfl) ?_
    refine RG.done ?_
    refine QW.then_ ?_
    refine CW.seq ?_
    refine CW.draw [] (.ex) 13 rfl mixed (fun wd14 hxwd14 => ?_)
    replace hxwl4 := Ex.tr hxwl4 hxwd14
    replace hE6 := Ex.tr hE6 hxwd14
    replace hE8 := Ex.tr hE8 hxwd14
    replace hE11 := Ex.tr hE11 hxwd14
    replace hE13 := Ex.tr hE13 hxwd14
    refine AG.takeW 0 rfl (by kernel_rfl) (by kernel_rfl) rfl rfl rfl (fun _ => Ev.move rfl rfl) ?_
    refine AG.takeW 1 rfl (by kernel_rfl) (by kernel_rfl) rfl rfl rfl (fun _ => Ev.move rfl rfl) ?_
    refine AG.takeW 5 rfl (by kernel_rfl) (by kernel_rfl) rfl rfl rfl (fun _ => Ev.move rfl rfl) ?_
    refine AG.takeW 6 rfl (by kernel_rfl) (by kernel_rfl) rfl rfl rfl (fun _ => Ev.move rfl rfl) ?_
    refine AG.only 2 rfl (by kernel_rfl) ?_
    refine RG.call rfl rfl rfl rfl rfl rfl rfl en_30 (rdegN _ R _ ((hR.ext hE6)) (by omega) (by omega)) ?_
    rintro _ w16 ⟨rfl, hx16⟩
    replace hxwl4 := Ex.tr hxwl4 hx16
    replace hE6 := Ex.tr hE6 hx16
    replace hE8 := Ex.tr hE8 hx16
    replace hE11 := Ex.tr hE11 hx16
    replace hE13 := Ex.tr hE13 hx16
    have hE17 := hx16
    refine RG.done ?_
    refine QW.an (fun _ => hE17) ?_
    refine AG.idxL _ 3 rfl (by kernel_rfl) (by kernel_rfl) rfl rfl rfl rfl rfl rfl Try.underlying39 sz_5 ((hR.ext hE6)) (hRt) (fun p18 hp18b hp18 => ?_)
    refine AG.take 4 rfl (by kernel_rfl) (by kernel_rfl) rfl rfl rfl (fun wq hq => Ev.ld0 rfl rfl Try.underlying5 rfl (hp18.ext hq hp18b) (rfl)) ?_
    refine AG.only 7 rfl (by kernel_rfl) ?_
    refine RG.call rfl rfl rfl rfl rfl rfl rfl en_30 (rdegN _ q _ ((hm.ext hxwl4)) (by omega) (by omega)) ?_
    rintro _ w20 ⟨rfl, hx20⟩
    replace hxwl4 := Ex.tr hxwl4 hx20
    replace hE6 := Ex.tr hE6 hx20
    replace hE8 := Ex.tr hE8 hx20
    replace hE11 := Ex.tr hE11 hx20
    replace hE13 := Ex.tr hE13 hx20
    replace hE17 := Ex.tr hE17 hx20
    have hE21 := hx20
    refine RG.done ?_
    refine QW.an (fun _ => hE21) ?_
    refine AG.idxL _ 8 rfl (by kernel_rfl) (by kernel_rfl) rfl rfl rfl rfl rfl rfl Try.underlying39 sz_5 ((hm.ext hxwl4)) (hqt) (fun p22 hp22b hp22 => ?_)
    refine AG.take 9 rfl (by kernel_rfl) (by kernel_rfl) rfl rfl rfl (fun wq hq => Ev.ld0 rfl rfl Try.underlying5 rfl (hp22.ext hq hp22b) (rfl)) ?_
    refine AG.only 10 rfl (by kernel_rfl) ?_
    refine RG.call rfl rfl rfl rfl rfl rfl rfl en_19 (rinvN (cf q (dg q - 1)) _ hq64 hq00) ?_
    rintro _ w24 ⟨rfl, hx24⟩
    replace hxwl4 := Ex.tr hxwl4 hx24
    replace hE6 := Ex.tr hE6 hx24
    replace hE8 := Ex.tr hE8 hx24
    replace hE11 := Ex.tr hE11 hx24
    replace hE13 := Ex.tr hE13 hx24
    replace hE17 := Ex.tr hE17 hx24
    replace hE21 := Ex.tr hE21 hx24
    have hE25 := hx24
    refine RG.done ?_
    refine QW.an (fun _ => hE25) ?_
    refine AG.only 11 rfl (by kernel_rfl) ?_
    refine RG.call rfl rfl rfl rfl rfl rfl rfl en_18 (rmul_ret _ _ _ (by exact hR64) (by exact hgi)) ?_
    rintro _ w27 ⟨rfl, hx27⟩
    replace hxwl4 := Ex.tr hxwl4 hx27
    replace hE6 := Ex.tr hE6 hx27
    replace hE8 := Ex.tr hE8 hx27
    replace hE11 := Ex.tr hE11 hx27
    replace hE13 := Ex.tr hE13 hx27
    replace hE17 := Ex.tr hE17 hx27
    replace hE21 := Ex.tr hE21 hx27
    replace hE25 := Ex.tr hE25 hx27
    have hE28 := hx27
    refine RG.done ?_
    refine QW.an (fun _ => hE28) ?_
    refine AG.takeW 12 rfl (by kernel_rfl) (by kernel_rfl) rfl rfl rfl (fun _ => Ev.assign rfl rfl) ?_
    refine AG.done (by kernel_rfl) ?_
    refine QW.sub (S' := [(1, _), (4, _), (5, _), (6, _), (7, _), (8, _), (9, _)]) ⟨rfl, rfl, rfl, rfl, rfl, rfl, rfl, trivial⟩ ?_
    refine QW.then_ ?_
    refine CW.seq ?_
    refine CW.region ?_
    refine RG.vl rfl rfl rfl (Ev.move rfl rfl) ?_
    refine RG.litO (os := [_]) (enc := encN) ([1]) rfl rfl rfl rfl rfl rfl rfl Try.underlying39 inf_5 rfl rfl rfl rfl rfl encN_len rfl rfl (fun v29 wk30 hxwk30 hown31 hnew32 => ?_)
    replace hxwl4 := Ex.tr hxwl4 hxwk30
    replace hE6 := Ex.tr hE6 hxwk30
    replace hE8 := Ex.tr hE8 hxwk30
    replace hE11 := Ex.tr hE11 hxwk30
    replace hE13 := Ex.tr hE13 hxwk30
    replace hE17 := Ex.tr hE17 hxwk30
    replace hE21 := Ex.tr hE21 hxwk30
    replace hE25 := Ex.tr hE25 hxwk30
    replace hE28 := Ex.tr hE28 hxwk30
    have hE33 := hxwk30
    refine RG.vl rfl rfl rfl (Ev.move rfl rfl) ?_
    refine RG.vl rfl rfl rfl (Ev.move rfl rfl) ?_
    refine RG.call rfl rfl rfl rfl rfl rfl rfl en_53 (rshift_ret _ _ _ _ _ ((hown31.rdl encN_len)) (by omega) (by omega) (by exact h1e) (by exact hC64)) ?_
    have hpre34 := (Ex.tr hR3 hxwl4)
    rintro vrh34 w34 ⟨hrh34, hx34⟩
    replace hxwl4 := Ex.tr hxwl4 hx34
    replace hE6 := Ex.tr hE6 hx34
    replace hE8 := Ex.tr hE8 hx34
    replace hE11 := Ex.tr hE11 hx34
    replace hE13 := Ex.tr hE13 hx34
    replace hE17 := Ex.tr hE17 hx34
    replace hE21 := Ex.tr hE21 hx34
    replace hE25 := Ex.tr hE25 hx34
    replace hE28 := Ex.tr hE28 hx34
    replace hE33 := Ex.tr hE33 hx34
    have hE35 := hx34
    refine RG.call rfl rfl rfl rfl rfl rfl rfl en_41 (rsum_ret _ _ _ _ _ ((hD.ext hE6)) ((hrh34.rdl encN_len)) (by omega) (by omega) (by exact hDe) (by exact el_shl _ _ _)) ?_
    have hpre36 := (Ex.tr hR3 hxwl4)
    rintro vrs36 w36 ⟨hrs36, hx36⟩
    replace hxwl4 := Ex.tr hxwl4 hx36
    replace hE6 := Ex.tr hE6 hx36
    replace hE8 := Ex.tr hE8 hx36
    replace hE11 := Ex.tr hE11 hx36
    replace hE13 := Ex.tr hE13 hx36
    replace hE17 := Ex.tr hE17 hx36
    replace hE21 := Ex.tr hE21 hx36
    replace hE25 := Ex.tr hE25 hx36
    replace hE28 := Ex.tr hE28 hx36
    replace hE33 := Ex.tr hE33 hx36
    replace hE35 := Ex.tr hE35 hx36
    have hE37 := hx36
    refine RG.vl rfl rfl rfl (Ev.assign rfl rfl) ?_
    refine RG.done ?_
    refine QW.then_ ?_
    refine CW.region ?_
    refine RG.vl rfl rfl rfl (Ev.move rfl rfl) ?_
    refine RG.vl rfl rfl rfl (Ev.move rfl rfl) ?_
    refine RG.vl rfl rfl rfl (Ev.move rfl rfl) ?_
    refine RG.vl rfl rfl rfl (Ev.move rfl rfl) ?_
    refine RG.call rfl rfl rfl rfl rfl rfl rfl en_53 (rshift_ret _ _ _ _ _ ((hm.ext hxwl4)) (by omega) (by omega) (by exact hq) (by exact hC64)) ?_
    have hpre38 := (Ex.tr hR3 hxwl4)
    rintro vrh38 w38 ⟨hrh38, hx38⟩
    replace hxwl4 := Ex.tr hxwl4 hx38
    replace hE6 := Ex.tr hE6 hx38
    replace hE8 := Ex.tr hE8 hx38
    replace hE11 := Ex.tr hE11 hx38
    replace hE13 := Ex.tr hE13 hx38
    replace hE17 := Ex.tr hE17 hx38
    replace hE21 := Ex.tr hE21 hx38
    replace hE25 := Ex.tr hE25 hx38
    replace hE28 := Ex.tr hE28 hx38
    replace hE33 := Ex.tr hE33 hx38
    replace hE35 := Ex.tr hE35 hx38
    replace hE37 := Ex.tr hE37 hx38
    have hE39 := hx38
    refine RG.call rfl rfl rfl rfl rfl rfl rfl en_41 (rsum_ret _ _ _ _ _ ((hR.ext hE6)) ((hrh38.rdl encN_len)) (by omega) (by omega) (by exact hRe) (by exact el_shl _ _ _)) ?_
    have hpre40 := (Ex.tr hR3 hxwl4)
    rintro vrs40 w40 ⟨hrs40, hx40⟩
    replace hxwl4 := Ex.tr hxwl4 hx40
    replace hE6 := Ex.tr hE6 hx40
    replace hE8 := Ex.tr hE8 hx40
    replace hE11 := Ex.tr hE11 hx40
    replace hE13 := Ex.tr hE13 hx40
    replace hE17 := Ex.tr hE17 hx40
    replace hE21 := Ex.tr hE21 hx40
    replace hE25 := Ex.tr hE25 hx40
    replace hE28 := Ex.tr hE28 hx40
    replace hE33 := Ex.tr hE33 hx40
    replace hE35 := Ex.tr hE35 hx40
    replace hE37 := Ex.tr hE37 hx40
    replace hE39 := Ex.tr hE39 hx40
    have hE41 := hx40
    refine RG.vl rfl rfl rfl (Ev.assign rfl rfl) ?_
    refine RG.done ?_
    refine QW.sub (S' := [(1, _), (4, _), (5, _), (6, _), (7, _)]) ⟨rfl, rfl, rfl, rfl, rfl, trivial⟩ ?_
    refine QW.blockN ?_
    refine QW.round4 (_) (_) (_) (_) ⟨rfl, rfl, trivial⟩ ⟨rfl, rfl, rfl, trivial⟩ ⟨⟨hst, (Own.ext hrs36 hE39).rdl encN_len, hrs40.rdl encN_len⟩, hxwl4⟩ (hstl)
  · refine CW.exit ?_
    refine QW.thenExit ?_
    refine QW.thenExit ?_
    refine QW.blockHit ?_
    refine QW.then_ ?_
    refine CW.seq ?_
    refine CW.region ?_
    refine RG.vl rfl rfl rfl (Ev.move rfl rfl) ?_
    refine RG.vl rfl rfl rfl (Ev.move rfl rfl) ?_
    refine RG.vl rfl rfl rfl (Ev.assign rfl rfl) ?_
    refine RG.vl rfl rfl rfl (Ev.assign rfl rfl) ?_
    refine RG.done ?_
    refine QW.then_ ?_
    refine CW.ret ?_
    refine QW.ret2 rfl rfl rfl ?_
    have hB := (Ex.tr hR3 hxwl4)
    exact ⟨_, _, D, R, rfl, (hD.ext hE6), (hR.ext hE6), rdv_end hdv (by omega), hdv.dt, hdv.rt, hdv.de, hdv.re, hB⟩

end Go.Proofs.Ytjaledljhiihmaa
