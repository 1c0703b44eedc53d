/- Walks (DF). Written by program. -/
import Derived.Test.YtnhkhpnkhkagaaaDoorT
import Derived.Test.YtnhkhpnkhkagaaaDoorDE
namespace Go.Proofs.YtnhkhpnkhkagaaaDoor
open Go.RowKit
set_option maxRecDepth 100000 in
set_option maxHeartbeats 1000000 in
theorem Check_ret (k : Nat) (wv : Value) (ws : List Int) (t : List UInt8) (w : World) (hws : RdL w 1 encI wv ws) (hwl : ws.length ≤ 100000) (hlen : t.length ≤ 100000) :
    Ret Tryd.prog 20 [.agg #[.int .u8 (k : Int), wv], .string ⟨t.toArray⟩] w (fun v w' => v = .tuple #[.int .u8 (checkR k ws t).1.toNat, .int .i64 (checkR k ws t).2] ∧ Ex w w') := by
  obtain ⟨wA, wC, rfl⟩ := hws.shape
  have hsz := sbytes t
  have hB0 : Ex w w := Ex.rfl_ _
  refine Ret.of Tryd.func20 rfl Tryd.ntmps20 rfl ?_
  refine CW.seq ?_
  refine CW.region ?_
  refine RG.box rfl rfl rfl rfl rfl (fun g1 w1 eg1 hx1 hb1 => ?_)
  have hle2 : w.heap.size ≤ g1 := by have := (Ex.rfl_ w).size; omega
  have hE3 := hx1
  refine RG.vl rfl rfl rfl (Ev.assign rfl rfl) ?_
  refine RG.vl rfl rfl rfl (Ev.assign rfl rfl) ?_
  refine RG.done ?_
  refine QW.then_ ?_
  refine CW.seq ?_
  refine CW.seq ?_
  refine CW.region ?_
  refine RG.vl rfl rfl rfl (Ev.ldAgg rfl rfl Tryd.underlying24 rfl sz_24 rfl (hb1.cells)) ?_
  refine RG.call rfl rfl rfl rfl rfl rfl rfl en_22 (right_ret k _ ws _ (hws.ext hE3) (by omega)) ?_
  rintro _ w4 ⟨rfl, hx4⟩
  replace hE3 := Ex.tr hE3 hx4
  have hE5 := hx4
  refine RG.vl rfl rfl rfl (Ev.not rfl rfl) ?_
  refine RG.done ?_
  refine QW.then_ ?_
  refine CW.cond rfl (fun hc6 => ?_) (fun hc6 => ?_)
  · refine CW.seq ?_
    refine CW.region ?_
    refine RG.vl rfl rfl rfl (Ev.assign rfl rfl) ?_
    refine RG.vl rfl rfl rfl (Ev.assign rfl rfl) ?_
    refine RG.done ?_
    refine QW.then_ ?_
    refine CW.ret ?_
    refine QW.thenRet ?_
    refine QW.ret2 rfl rfl rfl ?_
    have hB := (Ex.tr hB0 hE3)
    exact ⟨by unfold checkR; rw [show rightD k ws = false from not_t (by assumption)]; rfl, hB⟩
  · refine CW.skip ?_
    refine QW.then_ ?_
    refine CW.seq ?_
    refine CW.seq ?_
    refine CW.region ?_
    refine RG.vl rfl rfl rfl (Ev.move rfl rfl) ?_
    refine RG.vl rfl rfl rfl (Ev.lenStr rfl rfl rfl Tryd.underlying9) ?_
    refine RG.vl rfl rfl rfl (Ev.gtr rfl rfl rfl) ?_
    refine RG.done ?_
    refine QW.then_ ?_
    refine CW.condP rfl (fun hc7 => ?_) (fun hc7 => ?_)
    · refine CW.seq ?_
      refine CW.region ?_
      refine RG.vl rfl rfl rfl (Ev.assign rfl rfl) ?_
      refine RG.vl rfl rfl rfl (Ev.assign rfl rfl) ?_
      refine RG.done ?_
      refine QW.then_ ?_
      refine CW.ret ?_
      refine QW.thenRet ?_
      refine QW.ret2 rfl rfl rfl ?_
      have hB := (Ex.tr hB0 hE3)
      exact ⟨by unfold checkR; rw [show rightD k ws = true from not_f (by assumption), if_neg (by decide), if_pos (by omega)]; rfl, hB⟩
    · refine CW.skip ?_
      refine QW.then_ ?_
      refine CW.seq ?_
      refine CW.seq ?_
      refine CW.region ?_
      refine RG.vl rfl rfl rfl (Ev.move rfl rfl) ?_
      refine RG.call rfl rfl rfl rfl rfl rfl rfl en_35 (pay_ret _ _ (by omega)) ?_
      rintro _ w8 ⟨rfl, hx8⟩
      replace hE3 := Ex.tr hE3 hx8
      replace hE5 := Ex.tr hE5 hx8
      have hE9 := hx8
      refine RG.vl rfl rfl rfl (Ev.not rfl rfl) ?_
      refine RG.done ?_
      refine QW.then_ ?_
      refine CW.cond rfl (fun hc10 => ?_) (fun hc10 => ?_)
      · refine CW.seq ?_
        refine CW.region ?_
        refine RG.vl rfl rfl rfl (Ev.assign rfl rfl) ?_
        refine RG.vl rfl rfl rfl (Ev.assign rfl rfl) ?_
        refine RG.done ?_
        refine QW.sub (S' := [(1, _), (2, _), (4, _), (5, _)]) ⟨rfl, rfl, rfl, rfl, trivial⟩ ?_
        refine QW.then_ ?_
        refine CW.ret ?_
        refine QW.thenRet ?_
        refine QW.ret2 rfl rfl rfl ?_
        have hB := (Ex.tr hB0 hE3)
        exact ⟨by unfold checkR; rw [show rightD k ws = true from not_f (by assumption), if_neg (by decide), if_neg (by omega), show isPay t = false from not_t (by assumption)]; rfl, hB⟩
      · refine CW.skip ?_
        refine QW.then_ ?_
        refine CW.seq ?_
        have hr : rightD k ws = true := not_f (by assumption)
        have hp : isPay t = true := not_f (by assumption)
        have hl1 : (t ++ [48]).length = t.length + 1 := by simp
        have hc48 := pay0_chk k hp
        have hvl := vals_len (t ++ [48])
        refine CW.region ?_
        refine RG.vl rfl rfl rfl (Ev.move rfl rfl) ?_
        refine RG.vl rfl rfl rfl ((Ev.cat rfl rfl rfl (by rw [sbytes]; show _ + 1 ≤ _; omega)).conv (congrArg Value.string (bx_cat t [48]))) ?_
        replace hws := (hws.ext hE3)
        replace hb1 := (hb1.ext hE5)
        have hR11 := (Ex.tr hB0 hE3)
        have hR12 := hE5
        have hR13 := hE9
        refine RG.call rfl rfl rfl rfl rfl rfl rfl en_36 (vals_ret (t ++ [48]) _ (by omega) (chk_ok hc48)) ?_
        have hpre14 := hR11
        rintro r14 w14 ⟨hov14, hx14⟩
        have hsb15 := fun e => sep_blk hb1 (Nat.le_refl _) hov14 e
        have hE16 := hx14
        refine RG.vl rfl rfl rfl (Ev.assign rfl rfl) ?_
        refine RG.done ?_
        refine QW.sub (S' := [(2, _), (4, _), (5, _), (6, _)]) ⟨rfl, rfl, rfl, rfl, trivial⟩ ?_
        refine QW.then_ ?_
        refine CW.seq ?_
        refine CW.region ?_
        refine RG.vl rfl rfl rfl (Ev.move rfl rfl) ?_
        refine RG.vl rfl rfl rfl (Ev.ldAgg rfl rfl Tryd.underlying24 rfl sz_24 rfl ((hb1.ext hE16).cells)) ?_
        refine RG.vl rfl rfl rfl (Ev.move rfl rfl) ?_
        refine RG.call rfl rfl rfl rfl rfl rfl rfl en_37 (check_ret w8 k _ _ ws _ _ hE16 hws hov14 hr (by omega) (by omega) (chk_most hc48)) ?_
        rintro _ w17 ⟨x17, rfl, hown18, hgr19⟩
        replace hE16 := own_block hov14 hE16 hgr19 (Nat.le_refl _) hE16.size
        refine RG.idxO (i := 0) rfl rfl rfl rfl rfl rfl Tryd.underlying22 sz_3 encZ_len (hown18) (set0_at (by omega)) (fun g21 hg21 hBg21 hp20b hp20 => ?_)
        refine RG.stOw0 (g := g21) (checkD k ws (vals (t ++ [48]))) rfl rfl rfl rfl rfl sz_3 rfl (fun _ => rfl) hown18 hg21 (set0_at (by omega)) rfl (rfl) (fun ws22 hwws22 hown23 => ?_)
        rw [List.set_set] at hown23
        replace hE16 := Wr.below hE16 hwws22 hBg21
        refine RG.done ?_
        refine QW.then_ ?_
        refine CW.seq ?_
        refine CW.region ?_
        refine RG.vl rfl rfl rfl (Ev.move rfl rfl) ?_
        refine RG.idxO (i := 0) rfl rfl rfl rfl rfl rfl Tryd.underlying22 sz_3 encZ_len (hown23) (set0_at (by omega)) (fun g25 hg25 hBg25 hp24b hp24 => ?_)
        refine RG.vl rfl rfl rfl (Ev.ld0 rfl rfl Tryd.underlying3 rfl (hp24) (rfl)) ?_
        refine RG.call rfl rfl rfl rfl rfl rfl rfl en_38 (chr_ret _ _ (Nat.le_trans (checkD_le _ _ _) (mostD_le k))) ?_
        rintro _ w26 ⟨rfl, hx26⟩
        replace hE16 := Ex.tr hE16 hx26
        have hE27 := hx26
        refine RG.vl rfl rfl rfl (Ev.assign rfl rfl) ?_
        refine RG.vl rfl rfl rfl (Ev.assign rfl rfl) ?_
        refine RG.done ?_
        refine QW.then_ ?_
        refine CW.ret ?_
        refine QW.ret2 rfl rfl rfl ?_
        have hB := (Ex.tr hR11 hE16)
        exact ⟨by unfold checkR; rw [show rightD k ws = true from not_f (by assumption), if_neg (by decide), if_neg (by omega), hp]; rfl, hB⟩

set_option maxRecDepth 100000 in
set_option maxHeartbeats 1000000 in
theorem Append_ret (k : Nat) (wv : Value) (ws : List Int) (t : List UInt8) (w : World) (hws : RdL w 1 encI wv ws) (hwl : ws.length ≤ 100000) (hlen : t.length ≤ 100000) :
    Ret Tryd.prog 25 [.agg #[.int .u8 (k : Int), wv], .string ⟨t.toArray⟩] w (fun v w' => v = .tuple #[.string ⟨(appendR k ws t).1.toArray⟩, .int .i64 (appendR k ws t).2] ∧ Ex w w') := by
  obtain ⟨wA, wC, rfl⟩ := hws.shape
  have hsz := sbytes t
  have hch := check_asc k ws t
  have hB0 : Ex w w := Ex.rfl_ _
  refine Ret.of Tryd.func25 rfl Tryd.ntmps25 rfl ?_
  refine CW.seq ?_
  refine CW.region ?_
  refine RG.box rfl rfl rfl rfl rfl (fun g1 w1 eg1 hx1 hb1 => ?_)
  have hle2 : w.heap.size ≤ g1 := by have := (Ex.rfl_ w).size; omega
  have hE3 := hx1
  refine RG.vl rfl rfl rfl (Ev.assign rfl rfl) ?_
  refine RG.vl rfl rfl rfl (Ev.assign rfl rfl) ?_
  refine RG.done ?_
  refine QW.then_ ?_
  refine CW.seq ?_
  refine CW.region ?_
  refine RG.vl rfl rfl rfl (Ev.ldAgg rfl rfl Tryd.underlying24 rfl sz_24 rfl (hb1.cells)) ?_
  refine RG.vl rfl rfl rfl (Ev.move rfl rfl) ?_
  refine RG.call rfl rfl rfl rfl rfl rfl rfl en_20 (Check_ret k _ ws _ _ (hws.ext hE3) (by omega) (by omega)) ?_
  rintro _ w4 ⟨rfl, hx4⟩
  replace hE3 := Ex.tr hE3 hx4
  have hE5 := hx4
  refine RG.vl rfl rfl rfl (Ev.move rfl rfl) ?_
  refine RG.vl rfl rfl rfl (Ev.extract rfl rfl rfl) ?_
  refine RG.vl rfl rfl rfl (Ev.extract rfl rfl rfl) ?_
  refine RG.vl rfl rfl rfl (Ev.assign rfl rfl) ?_
  refine RG.vl rfl rfl rfl (Ev.assign rfl rfl) ?_
  refine RG.done ?_
  refine QW.then_ ?_
  refine CW.seq ?_
  refine CW.seq ?_
  refine CW.region ?_
  refine RG.vl rfl rfl rfl (Ev.move rfl rfl) ?_
  refine RG.vl rfl rfl rfl (Ev.neI rfl rfl rfl) ?_
  refine RG.done ?_
  refine QW.then_ ?_
  refine CW.condP rfl (fun hc6 => ?_) (fun hc6 => ?_)
  · refine CW.seq ?_
    refine CW.region ?_
    refine RG.vl rfl rfl rfl (Ev.move rfl rfl) ?_
    refine RG.vl rfl rfl rfl (Ev.assign rfl rfl) ?_
    refine RG.vl rfl rfl rfl (Ev.assign rfl rfl) ?_
    refine RG.done ?_
    refine QW.sub (S' := [(1, _), (4, _), (5, _), (6, _)]) ⟨rfl, rfl, rfl, rfl, trivial⟩ ?_
    refine QW.then_ ?_
    refine CW.ret ?_
    refine QW.thenRet ?_
    refine QW.ret2 rfl rfl rfl ?_
    have hB := (Ex.tr hB0 hE3)
    exact ⟨by unfold appendR; rw [if_neg (by assumption)], hB⟩
  · refine CW.skip ?_
    refine QW.then_ ?_
    refine CW.seq ?_
    refine CW.region ?_
    refine RG.vl rfl rfl rfl (Ev.move rfl rfl) ?_
    refine RG.vl rfl rfl rfl (Ev.move rfl rfl) ?_
    refine RG.vl rfl rfl rfl (Ev.to32 rfl rfl Tryd.underlying5 Tryd.underlying21 (by omega)) ?_
    refine RG.vl rfl rfl rfl ((Ev.runeStr (p := (checkR k ws t).1.toNat) rfl rfl Tryd.underlying21 Tryd.underlying9 (hch)).conv (congrArg (fun c : UInt8 => Value.string ⟨[c].toArray⟩) (UInt8.ofNat_toNat (x := (checkR k ws t).1)))) ?_
    refine RG.vl rfl rfl rfl ((Ev.cat rfl rfl rfl (by rw [sbytes, sbytes]; show _ + 1 ≤ _; omega)).conv (congrArg Value.string (bx_cat t [(checkR k ws t).1]))) ?_
    refine RG.vl rfl rfl rfl (Ev.assign rfl rfl) ?_
    refine RG.vl rfl rfl rfl (Ev.assign rfl rfl) ?_
    refine RG.done ?_
    refine QW.sub (S' := [(4, _), (5, _)]) ⟨rfl, rfl, trivial⟩ ?_
    refine QW.then_ ?_
    refine CW.ret ?_
    refine QW.ret2 rfl rfl rfl ?_
    have hB := (Ex.tr hB0 hE3)
    have e : (checkR k ws t).2 = 0 := Decidable.not_not.1 (by assumption)
    exact ⟨by unfold appendR; rw [if_pos e], hB⟩

set_option maxRecDepth 100000 in
set_option maxHeartbeats 1000000 in
theorem Test_ret (k : Nat) (wv : Value) (ws : List Int) (t : List UInt8) (w : World) (hws : RdL w 1 encI wv ws) (hwl : ws.length ≤ 100000) (hlen : t.length ≤ 100000) :
    Ret Tryd.prog 21 [.agg #[.int .u8 (k : Int), wv], .string ⟨t.toArray⟩] w (fun v w' => v = .tuple #[.bool (testR k ws t).1, .int .i64 (testR k ws t).2] ∧ Ex w w') := by
  obtain ⟨wA, wC, rfl⟩ := hws.shape
  have hsz := sbytes t
  have hvl := vals_len t
  have hB0 : Ex w w := Ex.rfl_ _
  refine Ret.of Tryd.func21 rfl Tryd.ntmps21 rfl ?_
  refine CW.seq ?_
  refine CW.region ?_
  refine RG.box rfl rfl rfl rfl rfl (fun g1 w1 eg1 hx1 hb1 => ?_)
  have hle2 : w.heap.size ≤ g1 := by have := (Ex.rfl_ w).size; omega
  have hE3 := hx1
  refine RG.vl rfl rfl rfl (Ev.assign rfl rfl) ?_
  refine RG.vl rfl rfl rfl (Ev.assign rfl rfl) ?_
  refine RG.done ?_
  refine QW.then_ ?_
  refine CW.seq ?_
  refine CW.seq ?_
  refine CW.region ?_
  refine RG.vl rfl rfl rfl (Ev.ldAgg rfl rfl Tryd.underlying24 rfl sz_24 rfl (hb1.cells)) ?_
  refine RG.call rfl rfl rfl rfl rfl rfl rfl en_22 (right_ret k _ ws _ (hws.ext hE3) (by omega)) ?_
  rintro _ w4 ⟨rfl, hx4⟩
  replace hE3 := Ex.tr hE3 hx4
  have hE5 := hx4
  refine RG.vl rfl rfl rfl (Ev.not rfl rfl) ?_
  refine RG.done ?_
  refine QW.then_ ?_
  refine CW.cond rfl (fun hc6 => ?_) (fun hc6 => ?_)
  · refine CW.seq ?_
    refine CW.region ?_
    refine RG.vl rfl rfl rfl (Ev.assign rfl rfl) ?_
    refine RG.vl rfl rfl rfl (Ev.assign rfl rfl) ?_
    refine RG.done ?_
    refine QW.then_ ?_
    refine CW.ret ?_
    refine QW.thenRet ?_
    refine QW.ret2 rfl rfl rfl ?_
    have hB := (Ex.tr hB0 hE3)
    exact ⟨by unfold testR; rw [show rightD k ws = false from not_t (by assumption)]; rfl, hB⟩
  · refine CW.skip ?_
    refine QW.then_ ?_
    refine CW.seq ?_
    refine CW.seq ?_
    refine CW.region ?_
    refine RG.vl rfl rfl rfl (Ev.move rfl rfl) ?_
    refine RG.vl rfl rfl rfl (Ev.lenStr rfl rfl rfl Tryd.underlying9) ?_
    refine RG.vl rfl rfl rfl (Ev.gtr rfl rfl rfl) ?_
    refine RG.done ?_
    refine QW.then_ ?_
    refine CW.condP rfl (fun hc7 => ?_) (fun hc7 => ?_)
    · refine CW.seq ?_
      refine CW.region ?_
      refine RG.vl rfl rfl rfl (Ev.assign rfl rfl) ?_
      refine RG.vl rfl rfl rfl (Ev.assign rfl rfl) ?_
      refine RG.done ?_
      refine QW.then_ ?_
      refine CW.ret ?_
      refine QW.thenRet ?_
      refine QW.ret2 rfl rfl rfl ?_
      have hB := (Ex.tr hB0 hE3)
      exact ⟨by unfold testR; rw [show rightD k ws = true from not_f (by assumption), if_neg (by decide), if_pos (by omega)], hB⟩
    · refine CW.skip ?_
      refine QW.then_ ?_
      refine CW.seq ?_
      refine CW.seq ?_
      refine CW.region ?_
      refine RG.vl rfl rfl rfl (Ev.ldAgg rfl rfl Tryd.underlying24 rfl sz_24 rfl ((hb1.ext hE5).cells)) ?_
      refine RG.vl rfl rfl rfl (Ev.move rfl rfl) ?_
      refine RG.call rfl rfl rfl rfl rfl rfl rfl en_39 (isChk_ret k _ _ _ (by omega)) ?_
      rintro _ w8 ⟨rfl, hx8⟩
      replace hE3 := Ex.tr hE3 hx8
      replace hE5 := Ex.tr hE5 hx8
      have hE9 := hx8
      refine RG.vl rfl rfl rfl (Ev.not rfl rfl) ?_
      refine RG.done ?_
      refine QW.then_ ?_
      refine CW.cond rfl (fun hc10 => ?_) (fun hc10 => ?_)
      · refine CW.seq ?_
        refine CW.region ?_
        refine RG.vl rfl rfl rfl (Ev.assign rfl rfl) ?_
        refine RG.vl rfl rfl rfl (Ev.assign rfl rfl) ?_
        refine RG.done ?_
        refine QW.sub (S' := [(1, _), (2, _), (4, _), (5, _)]) ⟨rfl, rfl, rfl, rfl, trivial⟩ ?_
        refine QW.then_ ?_
        refine CW.ret ?_
        refine QW.thenRet ?_
        refine QW.ret2 rfl rfl rfl ?_
        have hB := (Ex.tr hB0 hE3)
        exact ⟨by unfold testR; rw [show rightD k ws = true from not_f (by assumption), if_neg (by decide), if_neg (by omega), show isChk k t = false from not_t (by assumption)]; rfl, hB⟩
      · refine CW.skip ?_
        refine QW.then_ ?_
        refine CW.seq ?_
        have hr : rightD k ws = true := not_f (by assumption)
        have hc : isChk k t = true := not_f (by assumption)
        refine CW.draw [] (.ex) 6 rfl mixed (fun wd11 hxwd11 => ?_)
        replace hE3 := Ex.tr hE3 hxwd11
        replace hE5 := Ex.tr hE5 hxwd11
        replace hE9 := Ex.tr hE9 hxwd11
        refine AG.take 0 rfl (by kernel_rfl) (by kernel_rfl) rfl rfl rfl (fun wq hq => Ev.ldAgg rfl rfl Tryd.underlying24 rfl sz_24 rfl (((hb1.ext hE5).ext hq).cells)) ?_
        refine AG.takeW 1 rfl (by kernel_rfl) (by kernel_rfl) rfl rfl rfl (fun _ => Ev.move rfl rfl) ?_
        refine AG.only 2 rfl (by kernel_rfl) ?_
        refine RG.call rfl rfl rfl rfl rfl rfl rfl en_36 (vals_ret t _ (by omega) (chk_ok hc)) ?_
        have hpre13 := (Ex.tr hB0 hE3)
        rintro r13 w13 ⟨hov13, hx13⟩
        replace hE3 := Ex.tr hE3 hx13
        replace hE5 := Ex.tr hE5 hx13
        replace hE9 := Ex.tr hE9 hx13
        have hE14 := hx13
        refine RG.done ?_
        refine QW.an (fun _ => hE14) ?_
        refine AG.only 3 rfl (by kernel_rfl) ?_
        refine RG.call rfl rfl rfl rfl rfl rfl rfl en_40 (passes_ret k _ _ ws (vals t) _ (hws.ext hE3) ((hov13.rdl encZ_len)) hr (by omega) (chk_most hc)) ?_
        rintro _ w16 ⟨rfl, hx16⟩
        replace hE3 := Ex.tr hE3 hx16
        replace hE5 := Ex.tr hE5 hx16
        replace hE9 := Ex.tr hE9 hx16
        replace hE14 := Ex.tr hE14 hx16
        have hE17 := hx16
        refine RG.done ?_
        refine QW.an (fun _ => hE17) ?_
        refine AG.takeW 4 rfl (by kernel_rfl) (by kernel_rfl) rfl rfl rfl (fun _ => Ev.assign rfl rfl) ?_
        refine AG.takeW 5 rfl (by kernel_rfl) (by kernel_rfl) rfl rfl rfl (fun _ => Ev.assign rfl rfl) ?_
        refine AG.done (by kernel_rfl) ?_
        refine QW.sub (S' := [(4, _), (5, _)]) ⟨rfl, rfl, trivial⟩ ?_
        refine QW.then_ ?_
        refine CW.ret ?_
        refine QW.ret2 rfl rfl rfl ?_
        have hB := (Ex.tr hB0 hE3)
        exact ⟨by unfold testR; rw [show rightD k ws = true from not_f (by assumption), if_neg (by decide), if_neg (by omega), hc]; rfl, hB⟩

end Go.Proofs.YtnhkhpnkhkagaaaDoor
