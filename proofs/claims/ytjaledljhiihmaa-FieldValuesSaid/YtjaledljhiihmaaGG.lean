/- Walks (GG). Written by program. -/
import Derived.Test.YtjaledljhiihmaaT
import Derived.Test.YtjaledljhiihmaaGF
namespace Go.Proofs.Ytjaledljhiihmaa
open Go.RowKit
set_option maxRecDepth 100000 in
set_option maxHeartbeats 2000000 in
theorem rthr_ret (u0 v0 : Value) (x y : List Nat) (w : World) (hl : RdL w 1 encN u0 x) (hm : RdL w 1 encN v0 y) (hlen : x.length ≤ 10000) (hxy : x.length = y.length) (hx : El x) (hy : El y) :
    Ret Try.prog 33 [u0, v0] w (fun v w' => ∃ r O, v = .tuple #[r, .bool (decide x.Nodup)] ∧ RdL w' 1 encN r O ∧ (x.Nodup → IsThr x y O) ∧ Ex w w') := by
  have hB0 : Ex w w := Ex.rfl_ _
  refine Ret.of Try.func33 rfl Try.ntmps33 rfl ?_
  refine CW.seq ?_
  refine CW.region ?_
  refine RG.vl rfl rfl rfl (Ev.assign rfl rfl) ?_
  refine RG.vl rfl rfl rfl (Ev.assign rfl rfl) ?_
  refine RG.done ?_
  refine QW.then_ ?_
  refine CW.seq ?_
  refine CW.region ?_
  refine RG.vl rfl rfl rfl (Ev.assign rfl rfl) ?_
  refine RG.done ?_
  refine QW.then_ ?_
  refine CW.seq ?_
  refine CW.seq ?_
  refine CW.region ?_
  refine RG.vl rfl rfl rfl (Ev.assign rfl rfl) ?_
  refine RG.done ?_
  refine QW.then_ ?_
  refine CW.block ?_
  refine CW.loop3 [(0, _), (1, _)] ⟨rfl, rfl, trivial⟩ (fun (i : Nat) (uo : Value) (O : List Nat) => [(7, .int .i64 i), (6, uo)]) (fun i uo O w' => (i ≤ x.length ∧ Rth x y O i ∧ RdL w' 1 encN uo O) ∧ Ex w w') (fun i uo O => x.length - i) (0) (.slice none 0 0) ([]) ⟨rfl, rfl, trivial⟩ ⟨⟨Nat.zero_le _, rth_start x y, RdL.nil_ _⟩, hB0⟩ ?_
  rintro i uo O wl1 ⟨⟨hi, hrth, hO⟩, hxwl1⟩
  refine CW.sub (S' := [(7, _), (6, _), (0, _), (1, _)]) ⟨rfl, rfl, rfl, rfl, trivial⟩ ?_
  refine CW.seq ?_
  refine CW.seq ?_
  refine CW.region ?_
  refine RG.vl rfl rfl rfl (Ev.move rfl rfl) ?_
  refine RG.vl rfl rfl rfl (Ev.move rfl rfl) ?_
  refine RG.vl rfl rfl rfl (Ev.lenL rfl rfl rfl Try.underlying39 ((hl.ext hxwl1))) ?_
  refine RG.vl rfl rfl rfl (Ev.lss rfl rfl rfl) ?_
  refine RG.done ?_
  refine QW.then_ ?_
  refine CW.condP rfl (fun hc2 => ?_) (fun hc2 => ?_)
  · refine CW.skip ?_
    refine QW.then_ ?_
    refine CW.seq ?_
    refine CW.block ?_
    refine CW.seq ?_
    obtain ⟨a, hai⟩ : ∃ a, x[i]? = some a := ⟨_, List.getElem?_eq_getElem (by omega)⟩
    obtain ⟨b, hbi⟩ : ∃ b, y[i]? = some b := ⟨_, List.getElem?_eq_getElem (by omega)⟩
    have ha64 := hx.get hai
    have hb64 := hy.get hbi
    refine CW.region ?_
    refine RG.litO (os := [_]) (enc := encN) ([1]) rfl rfl rfl rfl rfl rfl rfl Try.underlying39 inf_5 rfl rfl rfl rfl rfl encN_len rfl rfl (fun v3 wk4 hxwk4 hown5 hnew6 => ?_)
    replace hxwl1 := Ex.tr hxwl1 hxwk4
    have hE7 := hxwk4
    refine RG.vl rfl rfl rfl (Ev.assign rfl rfl) ?_
    refine RG.vl rfl rfl rfl ((Ev.assign rfl rfl).conv (rfl)) ?_
    refine RG.done ?_
    refine QW.then_ ?_
    refine CW.seq ?_
    refine CW.seq ?_
    refine CW.region ?_
    refine RG.vl rfl rfl rfl (Ev.assign rfl rfl) ?_
    refine RG.done ?_
    refine QW.then_ ?_
    refine CW.block ?_
    replace hl := (hl.ext hxwl1)
    replace hm := (hm.ext hxwl1)
    replace hO := (hO.ext hE7)
    have hR8 := (Ex.tr hB0 hxwl1)
    have hR9 := hE7
    refine CW.loop4 [(0, _), (1, _), (6, _), (7, _)] ⟨rfl, rfl, rfl, rfl, trivial⟩ (fun (k : Nat) (up : Value) (P : List Nat) (c : Nat) => [(10, .int .i64 k), (8, up), (9, .int .u8 (c : Int))]) (fun k up P c w' => (k ≤ x.length ∧ Lag x i k a P c ∧ RdL w' 1 encN up P) ∧ Ex wk4 w') (fun k up P c => x.length - k) (0) (_) ([1]) (1) ⟨rfl, rfl, rfl, trivial⟩ ⟨⟨Nat.zero_le _, lag_start x i a, hown5.rdl encN_len⟩, (Ex.rfl_ _)⟩ ?_
    rintro k up P c wl10 ⟨⟨hk, hlag, hP⟩, hxwl10⟩
    refine CW.sub (S' := [(10, _), (8, _), (9, _), (0, _), (1, _), (6, _), (7, _)]) ⟨rfl, rfl, rfl, rfl, rfl, rfl, rfl, trivial⟩ ?_
    refine CW.seq ?_
    refine CW.seq ?_
    refine CW.region ?_
    refine RG.vl rfl rfl rfl (Ev.move rfl rfl) ?_
    refine RG.vl rfl rfl rfl (Ev.move rfl rfl) ?_
    refine RG.vl rfl rfl rfl (Ev.lenL rfl rfl rfl Try.underlying39 ((hl.ext hxwl10))) ?_
    refine RG.vl rfl rfl rfl (Ev.lss rfl rfl rfl) ?_
    refine RG.done ?_
    refine QW.then_ ?_
    refine CW.condP rfl (fun hc11 => ?_) (fun hc11 => ?_)
    · refine CW.skip ?_
      refine QW.then_ ?_
      refine CW.seq ?_
      refine CW.block ?_
      refine CW.seq ?_
      refine CW.seq ?_
      refine CW.region ?_
      refine RG.vl rfl rfl rfl (Ev.move rfl rfl) ?_
      refine RG.vl rfl rfl rfl (Ev.move rfl rfl) ?_
      refine RG.vl rfl rfl rfl (Ev.eqI rfl rfl rfl) ?_
      refine RG.done ?_
      refine QW.then_ ?_
      refine CW.condP rfl (fun hc12 => ?_) (fun hc12 => ?_)
      · refine CW.exit ?_
        refine QW.thenExit ?_
        refine QW.blockHit ?_
        refine QW.then_ ?_
        refine CW.region ?_
        refine RG.vl rfl rfl rfl (Ev.move rfl rfl) ?_
        refine RG.vl rfl rfl rfl (Ev.addI rfl rfl rfl (by omega)) ?_
        refine RG.vl rfl rfl rfl (Ev.assign rfl rfl) ?_
        refine RG.done ?_
        refine QW.round4 (k + 1) (up) (P) (c) ⟨rfl, rfl, rfl, trivial⟩ ⟨rfl, rfl, rfl, rfl, trivial⟩ ⟨⟨by omega, (by obtain rfl : k = i := (by omega); exact lag_skip hlag), hP⟩, hxwl10⟩ (by omega)
      · refine CW.skip ?_
        refine QW.then_ ?_
        refine CW.seq ?_
        refine CW.seq ?_
        obtain ⟨xk, hxk⟩ : ∃ xk, x[k]? = some xk := ⟨_, List.getElem?_eq_getElem (by omega)⟩
        have hxk64 := hx.get hxk
        have hx1 := xor_lt64 a xk ha64 hxk64
        have he2 : El [xk, 1] := el2 hxk64 (by omega)
        have h1l : [xk, 1].length = 2 := rfl
        have hPe := hlag.pe
        have hPd := hlag.pd
        have hPl := dg_of_tr hlag.pt
        have hc64 := hlag.c64
        refine CW.draw [] (.ex) 9 rfl mixed (fun wd13 hxwd13 => ?_)
        replace hxwl10 := Ex.tr hxwl10 hxwd13
        have hE14 := hxwd13
        refine AG.takeW 0 rfl (by kernel_rfl) (by kernel_rfl) rfl rfl rfl (fun _ => Ev.move rfl rfl) ?_
        refine AG.takeW 1 rfl (by kernel_rfl) (by kernel_rfl) rfl rfl rfl (fun _ => Ev.move rfl rfl) ?_
        refine AG.idxL _ 2 rfl (by kernel_rfl) (by kernel_rfl) rfl rfl rfl rfl rfl rfl Try.underlying39 sz_5 ((hl.ext hxwl10)) (hxk) (fun p15 hp15b hp15 => ?_)
        refine AG.take 3 rfl (by kernel_rfl) (by kernel_rfl) rfl rfl rfl (fun wq hq => Ev.ld0 rfl rfl Try.underlying5 rfl (hp15.ext hq hp15b) (rfl)) ?_
        refine AG.takeW 4 rfl (by kernel_rfl) (by kernel_rfl) rfl rfl rfl (fun _ => Ev.move rfl rfl) ?_
        refine AG.takeW 5 rfl (by kernel_rfl) (by kernel_rfl) rfl rfl rfl (fun _ => Ev.move rfl rfl) ?_
        refine AG.idxL _ 6 rfl (by kernel_rfl) (by kernel_rfl) rfl rfl rfl rfl rfl rfl Try.underlying39 sz_5 ((hl.ext hxwl10)) (hai) (fun p16 hp16b hp16 => ?_)
        refine AG.take 7 rfl (by kernel_rfl) (by kernel_rfl) rfl rfl rfl (fun wq hq => Ev.ld0 rfl rfl Try.underlying5 rfl (hp16.ext hq hp16b) (rfl)) ?_
        refine AG.takeW 8 rfl (by kernel_rfl) (by kernel_rfl) rfl rfl rfl (fun _ => Ev.eqI rfl rfl rfl) ?_
        refine AG.done (by kernel_rfl) ?_
        refine QW.sub (S' := [(0, _), (1, _), (6, _), (7, _), (8, _), (9, _), (10, _), (35, _)]) ⟨rfl, rfl, rfl, rfl, rfl, rfl, rfl, rfl, trivial⟩ ?_
        refine QW.then_ ?_
        refine CW.condP rfl (fun hc17 => ?_) (fun hc17 => ?_)
        · refine CW.seq ?_
          refine CW.region ?_
          refine RG.vl rfl rfl rfl (Ev.assign rfl rfl) ?_
          refine RG.vl rfl rfl rfl (Ev.assign rfl rfl) ?_
          refine RG.done ?_
          refine QW.then_ ?_
          refine CW.ret ?_
          refine QW.thenRet ?_
          refine QW.blockR ?_
          refine QW.thenRet ?_
          refine QW.thenRet ?_
          refine QW.blockR ?_
          refine QW.thenRet ?_
          refine QW.blockR ?_
          refine QW.thenRet ?_
          refine QW.thenRet ?_
          refine QW.blockR ?_
          refine QW.thenRet ?_
          refine QW.ret2 rfl rfl rfl ?_
          have hB := (Ex.tr hR8 hxwl10)
          have hn : ¬ x.Nodup := dup_not (i := i) (j := k) (by omega) hai (by rw [hxk]; congr 1; omega)
          exact ⟨_, [], by rw [decide_eq_false hn], RdL.nil_ _, fun h => absurd h hn, hB⟩
        · refine CW.skip ?_
          refine QW.then_ ?_
          refine CW.seq ?_
          refine CW.region ?_
          refine RG.vl rfl rfl rfl (Ev.move rfl rfl) ?_
          refine RG.vl rfl rfl rfl (Ev.move rfl rfl) ?_
          refine RG.vl rfl rfl rfl (Ev.move rfl rfl) ?_
          refine RG.idxL rfl rfl rfl rfl rfl rfl Try.underlying39 sz_5 ((hl.ext hxwl10)) (hxk) (fun p18 hp18b hp18 => ?_)
          refine RG.vl rfl rfl rfl (Ev.ld0 rfl rfl Try.underlying5 rfl (hp18) (rfl)) ?_
          refine RG.litO (os := [.tmp 40, _]) (enc := encN) ([xk, 1]) rfl rfl rfl rfl rfl rfl rfl Try.underlying39 inf_5 rfl rfl rfl rfl rfl encN_len rfl rfl (fun v19 wk20 hxwk20 hown21 hnew22 => ?_)
          replace hxwl10 := Ex.tr hxwl10 hxwk20
          replace hE14 := Ex.tr hE14 hxwk20
          have hE23 := hxwk20
          refine RG.call rfl rfl rfl rfl rfl rfl rfl en_42 (rprod_ret _ _ _ _ _ ((hP.ext hE14)) ((hown21.rdl encN_len)) (by omega) (by omega) (by exact hPe) (by exact he2)) ?_
          have hpre24 := (Ex.tr hR8 hxwl10)
          rintro vrp24 w24 ⟨hrp24, hx24⟩
          replace hxwl10 := Ex.tr hxwl10 hx24
          replace hE14 := Ex.tr hE14 hx24
          replace hE23 := Ex.tr hE23 hx24
          have hE25 := hx24
          refine RG.vl rfl rfl rfl (Ev.assign rfl rfl) ?_
          refine RG.done ?_
          refine QW.then_ ?_
          refine CW.draw [] (.ex) 12 rfl mixed (fun wd26 hxwd26 => ?_)
          replace hxwl10 := Ex.tr hxwl10 hxwd26
          replace hE14 := Ex.tr hE14 hxwd26
          replace hE23 := Ex.tr hE23 hxwd26
          replace hE25 := Ex.tr hE25 hxwd26
          have hE27 := hxwd26
          refine AG.takeW 0 rfl (by kernel_rfl) (by kernel_rfl) rfl rfl rfl (fun _ => Ev.move rfl rfl) ?_
          refine AG.takeW 1 rfl (by kernel_rfl) (by kernel_rfl) rfl rfl rfl (fun _ => Ev.move rfl rfl) ?_
          refine AG.takeW 2 rfl (by kernel_rfl) (by kernel_rfl) rfl rfl rfl (fun _ => Ev.move rfl rfl) ?_
          refine AG.idxL _ 3 rfl (by kernel_rfl) (by kernel_rfl) rfl rfl rfl rfl rfl rfl Try.underlying39 sz_5 ((hl.ext hxwl10)) (hai) (fun p28 hp28b hp28 => ?_)
          refine AG.take 4 rfl (by kernel_rfl) (by kernel_rfl) rfl rfl rfl (fun wq hq => Ev.ld0 rfl rfl Try.underlying5 rfl (hp28.ext hq hp28b) (rfl)) ?_
          refine AG.takeW 5 rfl (by kernel_rfl) (by kernel_rfl) rfl rfl rfl (fun _ => Ev.move rfl rfl) ?_
          refine AG.takeW 6 rfl (by kernel_rfl) (by kernel_rfl) rfl rfl rfl (fun _ => Ev.move rfl rfl) ?_
          refine AG.idxL _ 7 rfl (by kernel_rfl) (by kernel_rfl) rfl rfl rfl rfl rfl rfl Try.underlying39 sz_5 ((hl.ext hxwl10)) (hxk) (fun p29 hp29b hp29 => ?_)
          refine AG.take 8 rfl (by kernel_rfl) (by kernel_rfl) rfl rfl rfl (fun wq hq => Ev.ld0 rfl rfl Try.underlying5 rfl (hp29.ext hq hp29b) (rfl)) ?_
          refine AG.takeW 9 rfl (by kernel_rfl) (by kernel_rfl) rfl rfl rfl (fun _ => Ev.xor8 rfl rfl rfl (by omega) (by omega)) ?_
          refine AG.only 10 rfl (by kernel_rfl) ?_
          refine RG.call rfl rfl rfl rfl rfl rfl rfl en_18 (rmul_ret _ _ _ (by exact hc64) (by exact hx1)) ?_
          rintro _ w31 ⟨rfl, hx31⟩
          replace hxwl10 := Ex.tr hxwl10 hx31
          replace hE14 := Ex.tr hE14 hx31
          replace hE23 := Ex.tr hE23 hx31
          replace hE25 := Ex.tr hE25 hx31
          replace hE27 := Ex.tr hE27 hx31
          have hE32 := hx31
          refine RG.done ?_
          refine QW.an (fun _ => hE32) ?_
          refine AG.takeW 11 rfl (by kernel_rfl) (by kernel_rfl) rfl rfl rfl (fun _ => Ev.assign rfl rfl) ?_
          refine AG.done (by kernel_rfl) ?_
          refine QW.sub (S' := [(0, _), (1, _), (6, _), (7, _), (8, _), (9, _), (10, _)]) ⟨rfl, rfl, rfl, rfl, rfl, rfl, rfl, trivial⟩ ?_
          refine QW.blockN ?_
          refine QW.then_ ?_
          refine CW.region ?_
          refine RG.vl rfl rfl rfl (Ev.move rfl rfl) ?_
          refine RG.vl rfl rfl rfl (Ev.addI rfl rfl rfl (by omega)) ?_
          refine RG.vl rfl rfl rfl (Ev.assign rfl rfl) ?_
          refine RG.done ?_
          refine QW.round4 (k + 1) (_) (_) (_) ⟨rfl, rfl, rfl, trivial⟩ ⟨rfl, rfl, rfl, rfl, trivial⟩ ⟨⟨by omega, lag_step hlag hx ha64 hxk (by omega) (by omega), (Own.ext hrp24 hE27).rdl encN_len⟩, hxwl10⟩ (by omega)
    · refine CW.exit ?_
      refine QW.thenExit ?_
      refine QW.thenExit ?_
      refine QW.blockHit ?_
      refine QW.then_ ?_
      obtain rfl : k = x.length := by omega
      have hPe := hlag.pe
      have hPd := hlag.pd
      have hPl := dg_of_tr hlag.pt
      have hc64 := hlag.c64
      have hc0 := hlag.c0
      have hgi := (gi_lt c).2
      have hOe := hrth.oe
      have hOl := dg_of_tr hrth.ot
      have hOd := hrth.od
      have hsl := shl_len P (gm b (gi c)) 0
      have hG64 := gm_lt b (gi c)
      refine CW.draw [] (.ex) 12 rfl mixed (fun wd33 hxwd33 => ?_)
      replace hxwl10 := Ex.tr hxwl10 hxwd33
      have hE34 := hxwd33
      refine AG.takeW 0 rfl (by kernel_rfl) (by kernel_rfl) rfl rfl rfl (fun _ => Ev.move rfl rfl) ?_
      refine AG.takeW 1 rfl (by kernel_rfl) (by kernel_rfl) rfl rfl rfl (fun _ => Ev.move rfl rfl) ?_
      refine AG.takeW 2 rfl (by kernel_rfl) (by kernel_rfl) rfl rfl rfl (fun _ => Ev.move rfl rfl) ?_
      refine AG.takeW 3 rfl (by kernel_rfl) (by kernel_rfl) rfl rfl rfl (fun _ => Ev.move rfl rfl) ?_
      refine AG.idxL _ 4 rfl (by kernel_rfl) (by kernel_rfl) rfl rfl rfl rfl rfl rfl Try.underlying39 sz_5 ((hm.ext hxwl10)) (hbi) (fun p35 hp35b hp35 => ?_)
      refine AG.take 5 rfl (by kernel_rfl) (by kernel_rfl) rfl rfl rfl (fun wq hq => Ev.ld0 rfl rfl Try.underlying5 rfl (hp35.ext hq hp35b) (rfl)) ?_
      refine AG.takeW 6 rfl (by kernel_rfl) (by kernel_rfl) rfl rfl rfl (fun _ => Ev.move rfl rfl) ?_
      refine AG.only 7 rfl (by kernel_rfl) ?_
      refine RG.call rfl rfl rfl rfl rfl rfl rfl en_19 (rinvN c _ hc64 hc0) ?_
      rintro _ w37 ⟨rfl, hx37⟩
      replace hxwl10 := Ex.tr hxwl10 hx37
      replace hE34 := Ex.tr hE34 hx37
      have hE38 := hx37
      refine RG.done ?_
      refine QW.an (fun _ => hE38) ?_
      refine AG.only 8 rfl (by kernel_rfl) ?_
      refine RG.call rfl rfl rfl rfl rfl rfl rfl en_18 (rmul_ret _ _ _ (by exact hb64) (by exact hgi)) ?_
      rintro _ w40 ⟨rfl, hx40⟩
      replace hxwl10 := Ex.tr hxwl10 hx40
      replace hE34 := Ex.tr hE34 hx40
      replace hE38 := Ex.tr hE38 hx40
      have hE41 := hx40
      refine RG.done ?_
      refine QW.an (fun _ => hE41) ?_
      refine AG.only 9 rfl (by kernel_rfl) ?_
      refine RG.call rfl rfl rfl rfl rfl rfl rfl en_53 (rshift_ret _ _ _ 0 _ ((hP.ext hE34)) (by omega) (by omega) (by exact hPe) (by exact hG64)) ?_
      have hpre43 := (Ex.tr hR8 hxwl10)
      rintro vrh43 w43 ⟨hrh43, hx43⟩
      replace hxwl10 := Ex.tr hxwl10 hx43
      replace hE34 := Ex.tr hE34 hx43
      replace hE38 := Ex.tr hE38 hx43
      replace hE41 := Ex.tr hE41 hx43
      have hE44 := hx43
      refine RG.done ?_
      refine QW.an (fun _ => hE44) ?_
      refine AG.only 10 rfl (by kernel_rfl) ?_
      refine RG.call rfl rfl rfl rfl rfl rfl rfl en_41 (rsum_ret _ _ _ _ _ ((hO.ext hxwl10)) ((hrh43.rdl encN_len)) (by omega) (by omega) (by exact hOe) (by exact el_shl _ _ _)) ?_
      have hpre46 := (Ex.tr hR8 hxwl10)
      rintro vrs46 w46 ⟨hrs46, hx46⟩
      replace hxwl10 := Ex.tr hxwl10 hx46
      replace hE34 := Ex.tr hE34 hx46
      replace hE38 := Ex.tr hE38 hx46
      replace hE41 := Ex.tr hE41 hx46
      replace hE44 := Ex.tr hE44 hx46
      have hE47 := hx46
      refine RG.done ?_
      refine QW.an (fun _ => hE47) ?_
      refine AG.takeW 11 rfl (by kernel_rfl) (by kernel_rfl) rfl rfl rfl (fun _ => Ev.assign rfl rfl) ?_
      refine AG.done (by kernel_rfl) ?_
      refine QW.sub (S' := [(0, _), (1, _), (6, _), (7, _)]) ⟨rfl, rfl, rfl, rfl, trivial⟩ ?_
      refine QW.blockN ?_
      refine QW.then_ ?_
      refine CW.region ?_
      refine RG.vl rfl rfl rfl (Ev.move rfl rfl) ?_
      refine RG.vl rfl rfl rfl (Ev.addI rfl rfl rfl (by omega)) ?_
      refine RG.vl rfl rfl rfl (Ev.assign rfl rfl) ?_
      refine RG.done ?_
      refine QW.round3 (i + 1) (_) (_) ⟨rfl, rfl, trivial⟩ ⟨rfl, rfl, trivial⟩ ⟨⟨by omega, rth_step hx hy hrth hai hbi hlag, hrs46.rdl encN_len⟩, (Ex.tr hR8 hxwl10)⟩ (by omega)
  · refine CW.exit ?_
    refine QW.thenExit ?_
    refine QW.thenExit ?_
    refine QW.blockHit ?_
    refine QW.then_ ?_
    refine CW.seq ?_
    refine CW.region ?_
    refine RG.vl rfl rfl rfl (Ev.move rfl rfl) ?_
    refine RG.vl rfl rfl rfl (Ev.assign rfl rfl) ?_
    refine RG.vl rfl rfl rfl (Ev.assign rfl rfl) ?_
    refine RG.done ?_
    refine QW.then_ ?_
    refine CW.ret ?_
    refine QW.ret2 rfl rfl rfl ?_
    have hB := (Ex.tr hB0 hxwl1)
    obtain rfl : i = x.length := by omega
    obtain ⟨hn, hth⟩ := rth_end hrth
    exact ⟨_, O, by rw [decide_eq_true hn], hO, fun _ => hth, hB⟩

end Go.Proofs.Ytjaledljhiihmaa
