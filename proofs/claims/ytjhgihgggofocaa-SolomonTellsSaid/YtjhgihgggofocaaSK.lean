/- Walks (SK). Written by program. -/
import Derived.Test.YtjhgihgggofocaaT
import Derived.Test.YtjhgihgggofocaaSJ
import Derived.Test.YtjhgihgggofocaaLP
namespace Go.Proofs.Ytjhgihgggofocaa
open Go.RowKit
set_option maxRecDepth 100000 in
set_option maxHeartbeats 2000000 in
theorem iter_ret (kf : Nat) (w0 : World) (lp gE gN gG n : Nat) (A : Option Addr) (c : Nat) (er : List Nat) (J Jx : List El2 → World → Prop) (w : World) (hx0 : Ex w0 w) (hE : Blk w0 gE 23 [.slice A er.length c]) (hN : Blk w0 gN 3 [.int .i64 (n : Int)]) (hG : Blk w0 gG 56 (goneC er)) (hl : RdL w0 1 encZ (.slice A er.length c) er) (her : er.length ≤ 4) (hn : n ≤ 63) (hcalm : Calm w.heap.size J) (hY : ∀ pre x A, J pre A → (RdL A 1 encZ x.1 x.2 ∧ (pre ++ [x]).map Prod.snd <+: candL n er) → YieldAt Fence.wide (kf - 1) Try.prog lp #[x.1] A fun e B => (e = .returned (.bool true) ∧ J (pre ++ [x]) B ∧ Kc w0.heap.size A B) ∨ (e = .returned (.bool false) ∧ Jx (pre ++ [x]) B)) (h0 : J [] w) :
    Ret Try.prog 53 [.func (.yield lp) #[] #[], .pointer (some ⟨gE, 0, none⟩), .pointer (some ⟨gN, 0, none⟩), .pointer (some ⟨gG, 0, none⟩)] w (fun _ w' => (∃ xs : List El2, xs.map Prod.snd = candL n er ∧ J xs w') ∨ ∃ pre, Jx pre w') := by
  have hx00 := hx0
  have hJ0 : JAt J w.heap.size [] w := ⟨hcalm, h0, Nat.le_refl _⟩
  have hB0 : Ex w w := Ex.rfl_ _
  refine Ret.of Try.func53 rfl Try.ntmps53 rfl ?_
  refine CW.seq ?_
  refine CW.region ?_
  refine RG.vl rfl rfl rfl (Ev.ld0 rfl rfl Try.underlying23 rfl ((hE.ext hx00).cells) (rfl)) ?_
  refine RG.vl rfl rfl rfl (Ev.lenL rfl rfl rfl Try.underlying23 ((hl.ext hx00))) ?_
  refine RG.vl rfl rfl rfl (Ev.subI rfl rfl rfl (by omega)) ?_
  refine RG.vl rfl rfl rfl (Ev.quoI rfl rfl rfl (by omega)) ?_
  refine RG.vl rfl rfl rfl (Ev.assign rfl rfl) ?_
  refine RG.done ?_
  refine QW.then_ ?_
  refine CW.seq ?_
  refine CW.region ?_
  refine RG.vl rfl rfl rfl (Ev.ld0 rfl rfl Try.underlying23 rfl ((hE.ext hx00).cells) (rfl)) ?_
  refine RG.call rfl rfl rfl rfl rfl rfl rfl en_54 (cloneI_ret _ er _ ((hl.ext hx00)) (by omega)) ?_
  have hpre1 := hB0
  rintro vp w1 ⟨hpl, hx1⟩
  have hE2 := hx1
  replace hx00 := Ex.tr hx00 hx1
  refine RG.vl rfl rfl rfl (Ev.assign rfl rfl) ?_
  refine RG.done ?_
  refine QW.then_ ?_
  refine CW.seq ?_
  refine CW.seq ?_
  refine CW.fenced kf ?_
  refine CWI.region ?_
  refine RGI.ahead 2 (fun _ _ h => by obtain ⟨_, e, _⟩ := h; cases e) ?_
  refine RG.vl rfl rfl rfl (Ev.move rfl rfl) ?_
  refine RG.vl rfl rfl rfl (Ev.move rfl rfl) ?_
  refine RG.done ?_
  refine RGI.rest ?_
  have hJy3 := (hJ0.ext hE2)
  have hrxy3 := (hpl.rdl encZ_len)
  have hpfy3 : ([] ++ [((vp, er) : El2)]).map Prod.snd <+: candL n er := by
    exact cand_a n er
  refine RGI.yield_ (vs := [vp]) open_wide (hY [] (vp, er) _ hJy3.val ⟨hrxy3, hpfy3⟩) rfl rfl rfl rfl rfl rfl rfl (fun e w' h => by rcases h with ⟨rfl, _⟩ | ⟨rfl, _⟩ <;> exact ⟨_, rfl⟩) (fun q wyy3 hq => ?_)
  cases q
  · rcases hq with ⟨h, _⟩ | ⟨_, hJx1⟩
    · simp at h
    refine RGI.ofRG (fun _ _ h => by obtain ⟨_, e, _⟩ := h; cases e) ?_
    refine RG.vl rfl rfl rfl (Ev.notT rfl rfl) ?_
    refine RG.vl rfl rfl rfl (Ev.move rfl rfl) ?_
    refine RG.pass rfl rfl rfl ?_
    refine RG.pass rfl rfl rfl ?_
    refine RG.vl rfl rfl rfl (Ev.pickT rfl rfl rfl) ?_
    refine RG.done ?_
    refine QW.sub (S' := [(0, _), (2, _), (3, _), (5, _), (6, _), (23, _)]) ⟨rfl, rfl, rfl, rfl, rfl, rfl, trivial⟩ ?_
    refine QW.then_ ?_
    refine CW.condT rfl ?_
    refine CW.ret ?_
    refine QW.thenRet ?_
    refine QW.ret0 rfl ?_
    exact .inr ⟨_, hJx1⟩
  · rcases hq with ⟨_, hJ1, hK⟩ | ⟨h, _⟩
    rotate_left
    · simp at h
    have hxyy3 := Below.trans (Ex.tr hx0 hE2) hK.1
    have hJ2 : JAt J w.heap.size _ _ := ⟨hJy3.calm, hJ1, Nat.le_trans hJy3.size hK.1.size⟩
    have hpl2 := Own.kc hpl hK
    refine RGI.ofRG (fun _ _ h => by obtain ⟨_, e, _⟩ := h; cases e) ?_
    refine RG.vl rfl rfl rfl (Ev.notF rfl rfl) ?_
    refine RG.vl rfl rfl rfl (Ev.move rfl rfl) ?_
    refine RG.vl rfl rfl rfl (Ev.move rfl rfl) ?_
    refine RG.vl rfl rfl rfl (Ev.eqI rfl rfl rfl) ?_
    refine RG.vl rfl rfl rfl (Ev.pickF rfl rfl rfl) ?_
    refine RG.done ?_
    refine QW.sub (S' := [(0, _), (2, _), (3, _), (5, _), (6, _), (23, _)]) ⟨rfl, rfl, rfl, rfl, rfl, rfl, trivial⟩ ?_
    refine QW.then_ ?_
    refine CW.condP rfl (fun hc4 => ?_) (fun hc4 => ?_)
    · refine CW.ret ?_
      refine QW.thenRet ?_
      refine QW.ret0 rfl ?_
      exact .inl ⟨_, by rw [cand_3 (by omega)]; rfl, (hJ2).val⟩
    · refine CW.skip ?_
      refine QW.then_ ?_
      refine CW.seq ?_
      refine CW.seq ?_
      refine CW.region ?_
      refine RG.vl rfl rfl rfl (Ev.ld0 rfl rfl Try.underlying3 rfl ((hN.ext hxyy3).cells) (rfl)) ?_
      refine RG.vl rfl rfl rfl (Ev.move rfl rfl) ?_
      refine RG.done ?_
      refine QW.then_ ?_
      refine CW.block ?_
      refine CW.loop2 [(0, _), (2, _), (3, _), (5, _), (6, _), (24, _)] ⟨rfl, rfl, rfl, rfl, rfl, rfl, trivial⟩ (fun (a : Nat) (pre : List El2) => [(25, .int .i64 (a : Int))]) (fun a pre w' => (a ≤ n ∧ pre.map Prod.snd = [er] ++ singL er a ∧ JAt J w.heap.size pre w' ∧ Own w' w.heap.size 3 1 encZ vp er) ∧ Ex w0 w') (fun a pre => n - a) (0) (([] ++ [((vp, er) : El2)])) ⟨rfl, trivial⟩ ⟨⟨Nat.zero_le _, rfl, hJ2, hpl2⟩, hxyy3⟩ ?_
      rintro a pre wl5 ⟨⟨ha, hpre, hJ, hpl⟩, hxwl5⟩
      refine CW.sub (S' := [(25, _), (0, _), (2, _), (3, _), (5, _), (6, _), (24, _)]) ⟨rfl, rfl, rfl, rfl, rfl, rfl, rfl, trivial⟩ ?_
      
      refine CW.seq ?_
      refine CW.region ?_
      refine RG.vl rfl rfl rfl (Ev.lss rfl rfl rfl) ?_
      refine RG.done ?_
      refine QW.then_ ?_
      refine CW.seq ?_
      refine CW.condP rfl (fun hc6 => ?_) (fun hc6 => ?_)
      · refine CW.skip ?_
        refine QW.then_ ?_
        refine CW.seq ?_
        refine CW.block ?_
        refine CW.seq ?_
        refine CW.region ?_
        refine RG.vl rfl rfl rfl (Ev.move rfl rfl) ?_
        refine RG.vl rfl rfl rfl (Ev.assign rfl rfl) ?_
        refine RG.done ?_
        refine QW.then_ ?_
        refine CW.seq ?_
        refine CW.fenced kf ?_
        refine CWI.region ?_
        refine RGI.ahead 10 (fun _ _ h => by obtain ⟨_, e, _⟩ := h; cases e) ?_
        refine RG.vl rfl rfl rfl (Ev.move rfl rfl) ?_
        refine RG.vl rfl rfl rfl (Ev.idxA rfl rfl rfl Try.underlying56 sz_4 (by omega)) ?_
        refine RG.vl rfl rfl rfl (Ev.ldAt rfl rfl Try.underlying4 rfl ((hG.ext hxwl5).cells) ((show (goneC er)[a * 1]? = some (.bool (decide (a ∈ er))) by rw [Nat.mul_one]; exact goneC_at er (by omega)))) ?_
        refine RG.vl rfl rfl rfl (Ev.notP rfl rfl) ?_
        refine RG.vl rfl rfl rfl (Ev.move rfl rfl) ?_
        refine RG.split (d := 32) rfl (fun hg7 => ?_) (fun hg7 => ?_)
        · refine RG.vl rfl rfl rfl (Ev.move rfl rfl) ?_
          refine RG.vl rfl rfl rfl (Ev.move rfl rfl) ?_
          refine RG.vl rfl rfl rfl (Ev.move rfl rfl) ?_
          refine RG.litO (os := [.tmp 35]) (enc := encZ) ([a]) rfl rfl rfl rfl rfl rfl rfl Try.underlying23 inf_3 rfl rfl rfl rfl rfl encZ_len rfl rfl (fun v8 wk9 hxwk9 hown10 hnew11 => ?_)
          replace hxwl5 := Ex.tr hxwl5 hxwk9
          have hE12 := hxwk9
          have hJa13 := (hJ.ext hE12)
          have hoa13 := (Own.ext hpl hE12)
          have hxa13 := hxwl5
          refine RG.appKeep rfl rfl rfl rfl rfl rfl rfl Try.underlying23 inf_3 rfl hoa13 (hown10.rdl encZ_len) (by omega) (by decide) hJa13.size (fun vaa13 waa13 hraa13 hpaa13 hgaa13 => ?_)
          have hxba13 := own_block hoa13 hxa13 hgaa13 hx0.size hJa13.size
          have hJba13 := hJa13.own hoa13 (Nat.le_refl _) hgaa13
          refine RG.done ?_
          refine RGI.rest ?_
          have hJy14 := hJba13
          have hrxy14 := hraa13
          have hpfy14 : (pre ++ [((vaa13, (er ++ [a])) : El2)]).map Prod.snd <+: candL n er := by
            rw [List.map_append, hpre]; exact cand_b (by omega) (by omega) (by assumption)
          refine RGI.yield_ (vs := [vaa13]) open_wide (hY pre (vaa13, (er ++ [a])) _ hJy14.val ⟨hrxy14, hpfy14⟩) rfl rfl rfl rfl rfl rfl rfl (fun e w' h => by rcases h with ⟨rfl, _⟩ | ⟨rfl, _⟩ <;> exact ⟨_, rfl⟩) (fun q wyy14 hq => ?_)
          cases q
          · rcases hq with ⟨h, _⟩ | ⟨_, hJx1⟩
            · simp at h
            refine RGI.ofRG (fun _ _ h => by obtain ⟨_, e, _⟩ := h; cases e) ?_
            refine RG.vl rfl rfl rfl (Ev.notT rfl rfl) ?_
            refine RG.vl rfl rfl rfl (Ev.pickT rfl rfl rfl) ?_
            refine RG.done ?_
            refine QW.sub (S' := [(0, _), (2, _), (3, _), (5, _), (6, _), (24, _), (25, _), (40, _)]) ⟨rfl, rfl, rfl, rfl, rfl, rfl, rfl, rfl, trivial⟩ ?_
            refine QW.then_ ?_
            refine CW.condT rfl ?_
            refine CW.ret ?_
            refine QW.blockR ?_
            refine QW.thenRet ?_
            refine QW.thenRet ?_
            refine QW.blockR ?_
            refine QW.thenRet ?_
            refine QW.ret0 rfl ?_
            exact .inr ⟨_, hJx1⟩
          · rcases hq with ⟨_, hJ1, hK⟩ | ⟨h, _⟩
            rotate_left
            · simp at h
            have hxyy14 := Below.trans hxba13 hK.1
            have hJ2 : JAt J w.heap.size _ _ := ⟨hJy14.calm, hJ1, Nat.le_trans hJy14.size hK.1.size⟩
            have hpl2 := Own.kc hpaa13 hK
            refine RGI.ofRG (fun _ _ h => by obtain ⟨_, e, _⟩ := h; cases e) ?_
            refine RG.vl rfl rfl rfl (Ev.notF rfl rfl) ?_
            refine RG.vl rfl rfl rfl (Ev.pickT rfl rfl rfl) ?_
            refine RG.done ?_
            refine QW.sub (S' := [(0, _), (2, _), (3, _), (5, _), (6, _), (24, _), (25, _), (40, _)]) ⟨rfl, rfl, rfl, rfl, rfl, rfl, rfl, rfl, trivial⟩ ?_
            refine QW.then_ ?_
            refine CW.condF rfl ?_
            refine CW.skip ?_
            refine QW.blockN ?_
            refine QW.then_ ?_
            refine CW.region ?_
            refine RG.vl rfl rfl rfl (Ev.addI rfl rfl rfl (by omega)) ?_
            refine RG.vl rfl rfl rfl (Ev.move rfl rfl) ?_
            refine RG.done ?_
            refine QW.round2 (a + 1) ((pre ++ [((vaa13, (er ++ [a])) : El2)])) ⟨rfl, trivial⟩ ⟨rfl, rfl, rfl, rfl, rfl, rfl, trivial⟩ ⟨⟨by omega, by rw [List.map_append, hpre, sing_yes (by assumption), ← List.append_assoc, List.map_singleton], hJ2, hpl2⟩, hxyy14⟩ (by omega)
        · refine RG.pass rfl rfl rfl ?_
          refine RG.pass rfl rfl rfl ?_
          refine RG.pass rfl rfl rfl ?_
          refine RG.pass rfl rfl rfl ?_
          refine RG.pass rfl rfl rfl ?_
          refine RG.done ?_
          refine RGI.rest ?_
          refine RGI.ofRG (fun _ _ h => by obtain ⟨_, e, _⟩ := h; cases e) ?_
          refine RG.pass rfl rfl rfl ?_
          refine RG.pass rfl rfl rfl ?_
          refine RG.vl rfl rfl rfl (Ev.pickF rfl rfl rfl) ?_
          refine RG.done ?_
          refine QW.sub (S' := [(0, _), (2, _), (3, _), (5, _), (6, _), (24, _), (25, _), (40, _)]) ⟨rfl, rfl, rfl, rfl, rfl, rfl, rfl, rfl, trivial⟩ ?_
          refine QW.then_ ?_
          refine CW.condF rfl ?_
          refine CW.skip ?_
          refine QW.blockN ?_
          refine QW.then_ ?_
          refine CW.region ?_
          refine RG.vl rfl rfl rfl (Ev.addI rfl rfl rfl (by omega)) ?_
          refine RG.vl rfl rfl rfl (Ev.move rfl rfl) ?_
          refine RG.done ?_
          refine QW.round2 (a + 1) (pre) ⟨rfl, trivial⟩ ⟨rfl, rfl, rfl, rfl, rfl, rfl, trivial⟩ ⟨⟨by omega, by rw [hpre, sing_no (Decidable.not_not.1 (by assumption))], hJ, hpl⟩, hxwl5⟩ (by omega)
      · refine CW.exit ?_
        refine QW.thenExit ?_
        refine QW.thenExit ?_
        refine QW.blockHit ?_
        refine QW.then_ ?_
        refine CW.seq ?_
        refine CW.seq ?_
        refine CW.region ?_
        refine RG.vl rfl rfl rfl (Ev.move rfl rfl) ?_
        refine RG.vl rfl rfl rfl (Ev.eqI rfl rfl rfl) ?_
        refine RG.done ?_
        refine QW.then_ ?_
        refine CW.condP rfl (fun hc15 => ?_) (fun hc15 => ?_)
        · refine CW.ret ?_
          refine QW.thenRet ?_
          refine QW.ret0 rfl ?_
          obtain rfl : a = n := by omega
          exact .inl ⟨_, by rw [cand_1 (by omega) (by omega)]; exact hpre, (hJ).val⟩
        · refine CW.skip ?_
          refine QW.then_ ?_
          refine CW.seq ?_
          refine CW.region ?_
          refine RG.vl rfl rfl rfl (Ev.ld0 rfl rfl Try.underlying3 rfl ((hN.ext hxwl5).cells) (rfl)) ?_
          refine RG.vl rfl rfl rfl (Ev.move rfl rfl) ?_
          refine RG.done ?_
          refine QW.then_ ?_
          refine CW.block ?_
          refine CW.loop2 [(0, _), (2, _), (44, _)] ⟨rfl, rfl, rfl, trivial⟩ (fun (a : Nat) (pre : List El2) => [(45, .int .i64 (a : Int))]) (fun a pre w' => (a ≤ n ∧ pre.map Prod.snd = [er] ++ singL er n ++ (List.range a).flatMap (rowP n) ∧ JAt J w.heap.size pre w') ∧ Ex w0 w') (fun a pre => n - a) (0) (pre) ⟨rfl, trivial⟩ ⟨⟨Nat.zero_le _, by obtain rfl : a = n := (by omega); rw [hpre]; exact (List.append_nil _).symm, hJ⟩, hxwl5⟩ ?_
          rintro a pre wl16 ⟨⟨ha, hpre, hJ⟩, hxwl16⟩
          refine CW.sub (S' := [(45, _), (0, _), (2, _), (44, _)]) ⟨rfl, rfl, rfl, rfl, trivial⟩ ?_
          
          refine CW.seq ?_
          refine CW.region ?_
          refine RG.vl rfl rfl rfl (Ev.lss rfl rfl rfl) ?_
          refine RG.done ?_
          refine QW.then_ ?_
          refine CW.seq ?_
          refine CW.condP rfl (fun hc17 => ?_) (fun hc17 => ?_)
          · refine CW.skip ?_
            refine QW.then_ ?_
            refine CW.seq ?_
            refine CW.block ?_
            refine CW.seq ?_
            refine CW.region ?_
            refine RG.vl rfl rfl rfl (Ev.move rfl rfl) ?_
            refine RG.vl rfl rfl rfl (Ev.assign rfl rfl) ?_
            refine RG.done ?_
            refine QW.then_ ?_
            refine CW.seq ?_
            refine CW.region ?_
            refine RG.vl rfl rfl rfl (Ev.move rfl rfl) ?_
            refine RG.vl rfl rfl rfl (Ev.addI rfl rfl rfl (by omega)) ?_
            refine RG.vl rfl rfl rfl (Ev.assign rfl rfl) ?_
            refine RG.done ?_
            refine QW.then_ ?_
            refine CW.block ?_
            refine CW.loop2 [(0, _), (2, _), (8, _), (44, _), (45, _)] ⟨rfl, rfl, rfl, rfl, rfl, trivial⟩ (fun (b : Nat) (pre2 : List El2) => [(9, .int .i64 (b : Int))]) (fun b pre2 w' => (a + 1 ≤ b ∧ b ≤ n ∧ pre2.map Prod.snd = [er] ++ singL er n ++ pairT a b n ∧ JAt J w.heap.size pre2 w') ∧ Ex w0 w') (fun b pre2 => n - b) (a + 1) (pre) ⟨congrArg (fun x => some (Value.int .i64 x)) (by omega), trivial⟩ ⟨⟨by omega, by omega, by rw [pair_start]; exact hpre, hJ⟩, hxwl16⟩ ?_
            rintro b pre2 wl18 ⟨⟨hab, hb, hpre2, hJ⟩, hxwl18⟩
            refine CW.sub (S' := [(9, _), (0, _), (2, _), (8, _), (44, _), (45, _)]) ⟨rfl, rfl, rfl, rfl, rfl, rfl, trivial⟩ ?_
            
            refine CW.seq ?_
            refine CW.seq ?_
            refine CW.region ?_
            refine RG.vl rfl rfl rfl (Ev.move rfl rfl) ?_
            refine RG.vl rfl rfl rfl (Ev.ld0 rfl rfl Try.underlying3 rfl ((hN.ext hxwl18).cells) (rfl)) ?_
            refine RG.vl rfl rfl rfl (Ev.lss rfl rfl rfl) ?_
            refine RG.done ?_
            refine QW.then_ ?_
            refine CW.condP rfl (fun hc19 => ?_) (fun hc19 => ?_)
            · refine CW.skip ?_
              refine QW.then_ ?_
              refine CW.seq ?_
              refine CW.block ?_
              refine CW.seq ?_
              refine CW.fenced kf ?_
              refine CWI.region ?_
              refine RGI.ahead 4 (fun _ _ h => by obtain ⟨_, e, _⟩ := h; cases e) ?_
              refine RG.vl rfl rfl rfl (Ev.move rfl rfl) ?_
              refine RG.vl rfl rfl rfl (Ev.move rfl rfl) ?_
              refine RG.vl rfl rfl rfl (Ev.move rfl rfl) ?_
              refine RG.litO (os := [.tmp 56, .tmp 57]) (enc := encZ) ([a, b]) rfl rfl rfl rfl rfl rfl rfl Try.underlying23 inf_3 rfl rfl rfl rfl rfl encZ_len rfl rfl (fun v20 wk21 hxwk21 hown22 hnew23 => ?_)
              replace hxwl18 := Ex.tr hxwl18 hxwk21
              have hE24 := hxwk21
              refine RG.done ?_
              refine RGI.rest ?_
              have hJy25 := (hJ.ext hE24)
              have hrxy25 := (hown22.rdl encZ_len)
              have hpfy25 : (pre2 ++ [((v20, [a, b]) : El2)]).map Prod.snd <+: candL n er := by
                rw [List.map_append, hpre2]; exact cand_c (by omega) (by omega) (by omega)
              refine RGI.yield_ (vs := [v20]) open_wide (hY pre2 (v20, [a, b]) _ hJy25.val ⟨hrxy25, hpfy25⟩) rfl rfl rfl rfl rfl rfl rfl (fun e w' h => by rcases h with ⟨rfl, _⟩ | ⟨rfl, _⟩ <;> exact ⟨_, rfl⟩) (fun q wyy25 hq => ?_)
              cases q
              · rcases hq with ⟨h, _⟩ | ⟨_, hJx1⟩
                · simp at h
                refine RGI.ofRG (fun _ _ h => by obtain ⟨_, e, _⟩ := h; cases e) ?_
                refine RG.vl rfl rfl rfl (Ev.notT rfl rfl) ?_
                refine RG.done ?_
                refine QW.then_ ?_
                refine CW.condT rfl ?_
                refine CW.ret ?_
                refine QW.blockR ?_
                refine QW.thenRet ?_
                refine QW.thenRet ?_
                refine QW.blockR ?_
                refine QW.blockR ?_
                refine QW.thenRet ?_
                refine QW.thenRet ?_
                refine QW.blockR ?_
                refine QW.ret0 rfl ?_
                exact .inr ⟨_, hJx1⟩
              · rcases hq with ⟨_, hJ1, hK⟩ | ⟨h, _⟩
                rotate_left
                · simp at h
                have hxyy25 := Below.trans hxwl18 hK.1
                have hJ2 : JAt J w.heap.size _ _ := ⟨hJy25.calm, hJ1, Nat.le_trans hJy25.size hK.1.size⟩
                refine RGI.ofRG (fun _ _ h => by obtain ⟨_, e, _⟩ := h; cases e) ?_
                refine RG.vl rfl rfl rfl (Ev.notF rfl rfl) ?_
                refine RG.done ?_
                refine QW.then_ ?_
                refine CW.condF rfl ?_
                refine CW.skip ?_
                refine QW.blockN ?_
                refine QW.then_ ?_
                refine CW.region ?_
                refine RG.vl rfl rfl rfl (Ev.move rfl rfl) ?_
                refine RG.vl rfl rfl rfl (Ev.addI rfl rfl rfl (by omega)) ?_
                refine RG.vl rfl rfl rfl (Ev.assign rfl rfl) ?_
                refine RG.done ?_
                refine QW.round2 (b + 1) ((pre2 ++ [((v20, [a, b]) : El2)])) ⟨rfl, trivial⟩ ⟨rfl, rfl, rfl, rfl, rfl, trivial⟩ ⟨⟨by omega, by omega, by rw [List.map_append, hpre2, pair_more (by omega), ← List.append_assoc, List.map_singleton], hJ2⟩, hxyy25⟩ (by omega)
            · refine CW.exit ?_
              refine QW.thenExit ?_
              refine QW.thenExit ?_
              refine QW.blockHit ?_
              refine QW.blockN ?_
              refine QW.then_ ?_
              refine CW.region ?_
              refine RG.vl rfl rfl rfl (Ev.addI rfl rfl rfl (by omega)) ?_
              refine RG.vl rfl rfl rfl (Ev.move rfl rfl) ?_
              refine RG.done ?_
              refine QW.round2 (a + 1) (pre2) ⟨rfl, trivial⟩ ⟨rfl, rfl, rfl, trivial⟩ ⟨⟨by omega, by obtain rfl : b = n := (by omega); rw [← pair_end]; exact hpre2, hJ⟩, hxwl18⟩ (by omega)
          · refine CW.exit ?_
            refine QW.thenExit ?_
            refine QW.thenExit ?_
            refine QW.blockHit ?_
            refine QW.end0 rfl ?_
            obtain rfl : a = n := by omega
            exact .inl ⟨_, by rw [cand_0 (by omega)]; exact hpre, (hJ).val⟩

end Go.Proofs.Ytjhgihgggofocaa
