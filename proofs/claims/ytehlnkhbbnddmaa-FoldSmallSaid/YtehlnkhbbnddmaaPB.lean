/- Walks (PB). Written by program. -/
import Derived.Test.YtehlnkhbbnddmaaT
import Derived.Test.YtehlnkhbbnddmaaPA
namespace Go.Proofs.Ytehlnkhbbnddmaa
open Go.RowKit
set_option maxRecDepth 100000 in
set_option maxHeartbeats 4000000 in
theorem words_ret (l : List UInt8) (w : World) (hlen : l.length ≤ 100000) :
    Ret Try.prog 22 [.string ⟨l.toArray⟩] w (fun v w' => Own w' w.heap.size 9 1 encT v (wordsL l) ∧ Ex w w') := by
  have hsz := sbytes l
  have hB0 : Ex w w := Ex.rfl_ _
  refine Ret.of Try.func22 rfl Try.ntmps22 rfl ?_
  refine CW.seq ?_
  refine CW.region ?_
  refine RG.vl rfl rfl rfl (Ev.assign rfl rfl) ?_
  refine RG.done ?_
  refine QW.then_ ?_
  refine CW.seq ?_
  refine CW.region ?_
  refine RG.vl rfl rfl rfl (Ev.assign rfl rfl) ?_
  refine RG.done ?_
  refine QW.then_ ?_
  refine CW.seq ?_
  refine CW.region ?_
  refine RG.vl rfl rfl rfl (Ev.assign rfl rfl) ?_
  refine RG.done ?_
  refine QW.then_ ?_
  refine CW.seq ?_
  refine CW.seq ?_
  refine CW.region ?_
  refine RG.vl rfl rfl rfl (Ev.assign rfl rfl) ?_
  refine RG.done ?_
  refine QW.then_ ?_
  refine CW.block ?_
  refine CW.loop4 [(0, _), (2, _)] ⟨rfl, rfl, trivial⟩ (fun (i : Nat) (a : Nat) (out : List (List UInt8)) (v : Value) => [(5, .int .i64 i), (4, .int .i64 a), (3, v)]) (fun i a out v w' => (WS l i a out ∧ Own w' w.heap.size 9 1 encT v out) ∧ Ex w w') (fun i a out v => l.length + 1 - i) (0) (0) ([]) (.slice none 0 0) ⟨rfl, rfl, rfl, trivial⟩ ⟨⟨ws_start l, Own.nil_ _ _ _ _ _⟩, hB0⟩ ?_
  rintro i a out v wl1 ⟨⟨hws, hown⟩, hxwl1⟩
  refine CW.sub (S' := [(5, _), (4, _), (3, _), (0, _), (2, _)]) ⟨rfl, rfl, rfl, rfl, rfl, trivial⟩ ?_
  obtain ⟨hw1, hw2, hw3, hw4, hw5⟩ := id hws
  refine CW.seq ?_
  refine CW.seq ?_
  refine CW.region ?_
  refine RG.vl rfl rfl rfl (Ev.move rfl rfl) ?_
  refine RG.vl rfl rfl rfl (Ev.move rfl rfl) ?_
  refine RG.vl rfl rfl rfl (Ev.lenStr rfl rfl rfl Try.underlying9) ?_
  refine RG.vl rfl rfl rfl (Ev.leq rfl rfl rfl) ?_
  refine RG.done ?_
  refine QW.then_ ?_
  refine CW.condP rfl (fun hc2 => ?_) (fun hc2 => ?_)
  · refine CW.skip ?_
    refine QW.then_ ?_
    refine CW.seq ?_
    refine CW.block ?_
    refine CW.seq ?_
    refine CW.seq ?_
    refine CW.region ?_
    refine RG.vl rfl rfl rfl (Ev.move rfl rfl) ?_
    refine RG.vl rfl rfl rfl (Ev.move rfl rfl) ?_
    refine RG.vl rfl rfl rfl (Ev.lenStr rfl rfl rfl Try.underlying9) ?_
    refine RG.vl rfl rfl rfl (Ev.lss rfl rfl rfl) ?_
    refine RG.vl rfl rfl rfl (Ev.move rfl rfl) ?_
    refine RG.split (d := 16) rfl (fun hg3 => ?_) (fun hg3 => ?_)
    · refine RG.vl rfl rfl rfl (Ev.move rfl rfl) ?_
      refine RG.vl rfl rfl rfl (Ev.move rfl rfl) ?_
      obtain ⟨c, hc⟩ : ∃ c, l[i]? = some c := ⟨_, List.getElem?_eq_getElem (by omega)⟩
      refine RG.vl rfl rfl rfl (Ev.byteAt rfl rfl rfl Try.underlying9 (by omega) (hc)) ?_
      refine RG.vl rfl rfl rfl (Ev.neI rfl rfl rfl) ?_
      refine RG.vl rfl rfl rfl (Ev.pickT rfl rfl rfl) ?_
      refine RG.done ?_
      refine QW.sub (S' := [(0, _), (2, _), (3, _), (4, _), (5, _), (21, _)]) ⟨rfl, rfl, rfl, rfl, rfl, rfl, trivial⟩ ?_
      refine QW.then_ ?_
      refine CW.condP rfl (fun hc4 => ?_) (fun hc4 => ?_)
      · refine CW.exit ?_
        refine QW.thenExit ?_
        refine QW.blockHit ?_
        refine QW.then_ ?_
        refine CW.region ?_
        refine RG.vl rfl rfl rfl (Ev.move rfl rfl) ?_
        refine RG.vl rfl rfl rfl (Ev.addI rfl rfl rfl (by omega)) ?_
        refine RG.vl rfl rfl rfl (Ev.assign rfl rfl) ?_
        refine RG.done ?_
        refine QW.round4 (i + 1) (a) (out) (v) ⟨rfl, rfl, rfl, trivial⟩ ⟨rfl, rfl, trivial⟩ ⟨⟨ws_keep hws hc (fun e => by have e2 : c.toNat = 32 := (by rw [e]; rfl); omega), hown⟩, (Ex.tr hB0 hxwl1)⟩ (by omega)
      · refine CW.skip ?_
        refine QW.then_ ?_
        refine CW.seq ?_
        refine CW.seq ?_
        refine CW.region ?_
        refine RG.vl rfl rfl rfl (Ev.move rfl rfl) ?_
        refine RG.vl rfl rfl rfl (Ev.move rfl rfl) ?_
        refine RG.vl rfl rfl rfl (Ev.gtr rfl rfl rfl) ?_
        refine RG.done ?_
        refine QW.then_ ?_
        refine CW.condP rfl (fun hc5 => ?_) (fun hc5 => ?_)
        · refine CW.region ?_
          refine RG.vl rfl rfl rfl (Ev.move rfl rfl) ?_
          refine RG.vl rfl rfl rfl (Ev.move rfl rfl) ?_
          refine RG.vl rfl rfl rfl (Ev.move rfl rfl) ?_
          refine RG.vl rfl rfl rfl (Ev.move rfl rfl) ?_
          refine RG.vl rfl rfl rfl ((Ev.cutStr (i := a) (j := i) rfl rfl Try.underlying9 rfl rfl (by omega) (by rw [sbytes]; omega)).conv (congrArg Value.string (bx_cut l a i))) ?_
          refine RG.litO (os := [.tmp 29]) (enc := encT) ([(l.take i).drop a]) rfl rfl rfl rfl rfl rfl rfl Try.underlying32 inf_9 rfl rfl rfl rfl rfl encT_len rfl rfl (fun v6 wk7 hxwk7 hown8 hnew9 => ?_)
          replace hxwl1 := Ex.tr hxwl1 hxwk7
          have hE10 := hxwk7
          refine RG.appO rfl rfl rfl rfl rfl rfl rfl Try.underlying32 inf_9 rfl rfl encT_len (fun _ => rfl) (Own.ext hown hE10) ((hown8.rdl encT_len)) (by show _ + 1 ≤ maxLen; simp only [maxLen]; omega) (by show (_ + 1) * _ ≤ _; omega) (hxwl1.size) (fun v11 wa12 hown13 hgr14 hat15 => ?_)
          replace hxwl1 := own_block (Own.ext hown hE10) hxwl1 hgr14 (Nat.le_refl _) hxwl1.size
          refine RG.vl rfl rfl rfl (Ev.assign rfl rfl) ?_
          refine RG.done ?_
          refine QW.then_ ?_
          refine CW.region ?_
          refine RG.vl rfl rfl rfl (Ev.move rfl rfl) ?_
          refine RG.vl rfl rfl rfl (Ev.addI rfl rfl rfl (by omega)) ?_
          refine RG.vl rfl rfl rfl (Ev.assign rfl rfl) ?_
          refine RG.done ?_
          refine QW.sub (S' := [(0, _), (2, _), (3, _), (4, _), (5, _)]) ⟨rfl, rfl, rfl, rfl, rfl, trivial⟩ ?_
          refine QW.blockN ?_
          refine QW.then_ ?_
          refine CW.region ?_
          refine RG.vl rfl rfl rfl (Ev.move rfl rfl) ?_
          refine RG.vl rfl rfl rfl (Ev.addI rfl rfl rfl (by omega)) ?_
          refine RG.vl rfl rfl rfl (Ev.assign rfl rfl) ?_
          refine RG.done ?_
          refine QW.round4 (i + 1) (i + 1) (out ++ [(l.take i).drop a]) (v11) ⟨rfl, rfl, rfl, trivial⟩ ⟨rfl, rfl, trivial⟩ ⟨⟨ws_cut hws (by omega) (by first | exact .inl (by omega) | exact .inr (by rw [hc]; congr 1; exact UInt8.toNat_inj.1 (by show c.toNat = 32; omega))) (by omega), hown13⟩, (Ex.tr hB0 hxwl1)⟩ (by omega)
        · refine CW.skip ?_
          refine QW.then_ ?_
          refine CW.region ?_
          refine RG.vl rfl rfl rfl (Ev.move rfl rfl) ?_
          refine RG.vl rfl rfl rfl (Ev.addI rfl rfl rfl (by omega)) ?_
          refine RG.vl rfl rfl rfl (Ev.assign rfl rfl) ?_
          refine RG.done ?_
          refine QW.blockN ?_
          refine QW.then_ ?_
          refine CW.region ?_
          refine RG.vl rfl rfl rfl (Ev.move rfl rfl) ?_
          refine RG.vl rfl rfl rfl (Ev.addI rfl rfl rfl (by omega)) ?_
          refine RG.vl rfl rfl rfl (Ev.assign rfl rfl) ?_
          refine RG.done ?_
          refine QW.round4 (i + 1) (i + 1) (out) (v) ⟨rfl, rfl, rfl, trivial⟩ ⟨rfl, rfl, trivial⟩ ⟨⟨ws_skip hws (by omega) (by first | exact .inl (by omega) | exact .inr (by rw [hc]; congr 1; exact UInt8.toNat_inj.1 (by show c.toNat = 32; omega))) (by omega), hown⟩, (Ex.tr hB0 hxwl1)⟩ (by omega)
    · refine RG.pass rfl rfl rfl ?_
      refine RG.pass rfl rfl rfl ?_
      refine RG.pass rfl rfl rfl ?_
      refine RG.pass rfl rfl rfl ?_
      refine RG.vl rfl rfl rfl (Ev.pickF rfl rfl rfl) ?_
      refine RG.done ?_
      refine QW.sub (S' := [(0, _), (2, _), (3, _), (4, _), (5, _), (21, _)]) ⟨rfl, rfl, rfl, rfl, rfl, rfl, trivial⟩ ?_
      refine QW.then_ ?_
      refine CW.condF rfl ?_
      refine CW.skip ?_
      refine QW.then_ ?_
      refine CW.seq ?_
      refine CW.seq ?_
      refine CW.region ?_
      refine RG.vl rfl rfl rfl (Ev.move rfl rfl) ?_
      refine RG.vl rfl rfl rfl (Ev.move rfl rfl) ?_
      refine RG.vl rfl rfl rfl (Ev.gtr rfl rfl rfl) ?_
      refine RG.done ?_
      refine QW.then_ ?_
      refine CW.condP rfl (fun hc16 => ?_) (fun hc16 => ?_)
      · refine CW.region ?_
        refine RG.vl rfl rfl rfl (Ev.move rfl rfl) ?_
        refine RG.vl rfl rfl rfl (Ev.move rfl rfl) ?_
        refine RG.vl rfl rfl rfl (Ev.move rfl rfl) ?_
        refine RG.vl rfl rfl rfl (Ev.move rfl rfl) ?_
        refine RG.vl rfl rfl rfl ((Ev.cutStr (i := a) (j := i) rfl rfl Try.underlying9 rfl rfl (by omega) (by rw [sbytes]; omega)).conv (congrArg Value.string (bx_cut l a i))) ?_
        refine RG.litO (os := [.tmp 29]) (enc := encT) ([(l.take i).drop a]) rfl rfl rfl rfl rfl rfl rfl Try.underlying32 inf_9 rfl rfl rfl rfl rfl encT_len rfl rfl (fun v17 wk18 hxwk18 hown19 hnew20 => ?_)
        replace hxwl1 := Ex.tr hxwl1 hxwk18
        have hE21 := hxwk18
        refine RG.appO rfl rfl rfl rfl rfl rfl rfl Try.underlying32 inf_9 rfl rfl encT_len (fun _ => rfl) (Own.ext hown hE21) ((hown19.rdl encT_len)) (by show _ + 1 ≤ maxLen; simp only [maxLen]; omega) (by show (_ + 1) * _ ≤ _; omega) (hxwl1.size) (fun v22 wa23 hown24 hgr25 hat26 => ?_)
        replace hxwl1 := own_block (Own.ext hown hE21) hxwl1 hgr25 (Nat.le_refl _) hxwl1.size
        refine RG.vl rfl rfl rfl (Ev.assign rfl rfl) ?_
        refine RG.done ?_
        refine QW.then_ ?_
        refine CW.region ?_
        refine RG.vl rfl rfl rfl (Ev.move rfl rfl) ?_
        refine RG.vl rfl rfl rfl (Ev.addI rfl rfl rfl (by omega)) ?_
        refine RG.vl rfl rfl rfl (Ev.assign rfl rfl) ?_
        refine RG.done ?_
        refine QW.sub (S' := [(0, _), (2, _), (3, _), (4, _), (5, _)]) ⟨rfl, rfl, rfl, rfl, rfl, trivial⟩ ?_
        refine QW.blockN ?_
        refine QW.then_ ?_
        refine CW.region ?_
        refine RG.vl rfl rfl rfl (Ev.move rfl rfl) ?_
        refine RG.vl rfl rfl rfl (Ev.addI rfl rfl rfl (by omega)) ?_
        refine RG.vl rfl rfl rfl (Ev.assign rfl rfl) ?_
        refine RG.done ?_
        refine QW.round4 (i + 1) (i + 1) (out ++ [(l.take i).drop a]) (v22) ⟨rfl, rfl, rfl, trivial⟩ ⟨rfl, rfl, trivial⟩ ⟨⟨ws_cut hws (by omega) (by first | exact .inl (by omega) | exact .inr (by rw [hc]; congr 1; exact UInt8.toNat_inj.1 (by show c.toNat = 32; omega))) (by omega), hown24⟩, (Ex.tr hB0 hxwl1)⟩ (by omega)
      · refine CW.skip ?_
        refine QW.then_ ?_
        refine CW.region ?_
        refine RG.vl rfl rfl rfl (Ev.move rfl rfl) ?_
        refine RG.vl rfl rfl rfl (Ev.addI rfl rfl rfl (by omega)) ?_
        refine RG.vl rfl rfl rfl (Ev.assign rfl rfl) ?_
        refine RG.done ?_
        refine QW.blockN ?_
        refine QW.then_ ?_
        refine CW.region ?_
        refine RG.vl rfl rfl rfl (Ev.move rfl rfl) ?_
        refine RG.vl rfl rfl rfl (Ev.addI rfl rfl rfl (by omega)) ?_
        refine RG.vl rfl rfl rfl (Ev.assign rfl rfl) ?_
        refine RG.done ?_
        refine QW.round4 (i + 1) (i + 1) (out) (v) ⟨rfl, rfl, rfl, trivial⟩ ⟨rfl, rfl, trivial⟩ ⟨⟨ws_skip hws (by omega) (by first | exact .inl (by omega) | exact .inr (by rw [hc]; congr 1; exact UInt8.toNat_inj.1 (by show c.toNat = 32; omega))) (by omega), hown⟩, (Ex.tr hB0 hxwl1)⟩ (by omega)
  · refine CW.exit ?_
    refine QW.thenExit ?_
    refine QW.thenExit ?_
    refine QW.blockHit ?_
    refine QW.then_ ?_
    refine CW.seq ?_
    refine CW.region ?_
    refine RG.vl rfl rfl rfl (Ev.move rfl rfl) ?_
    refine RG.vl rfl rfl rfl (Ev.assign rfl rfl) ?_
    refine RG.done ?_
    refine QW.then_ ?_
    refine CW.ret ?_
    refine QW.ret1 rfl rfl ?_
    have hB := (Ex.tr hB0 hxwl1)
    rw [ws_end hws (by omega)] at hown
    exact ⟨hown, hB⟩

set_option maxRecDepth 100000 in
set_option maxHeartbeats 4000000 in
theorem rwords_ret (l : List UInt8) (w : World) (hlen : l.length ≤ 100000) :
    Ret Try.prog 36 [.string ⟨l.toArray⟩] w (fun v w' => Own w' w.heap.size 9 1 encT v (wordsL l) ∧ Ex w w') := by
  have hsz := sbytes l
  have hB0 : Ex w w := Ex.rfl_ _
  refine Ret.of Try.func36 rfl Try.ntmps36 rfl ?_
  refine CW.seq ?_
  refine CW.region ?_
  refine RG.vl rfl rfl rfl (Ev.assign rfl rfl) ?_
  refine RG.done ?_
  refine QW.then_ ?_
  refine CW.seq ?_
  refine CW.region ?_
  refine RG.vl rfl rfl rfl (Ev.assign rfl rfl) ?_
  refine RG.done ?_
  refine QW.then_ ?_
  refine CW.seq ?_
  refine CW.region ?_
  refine RG.vl rfl rfl rfl (Ev.assign rfl rfl) ?_
  refine RG.done ?_
  refine QW.then_ ?_
  refine CW.seq ?_
  refine CW.seq ?_
  refine CW.region ?_
  refine RG.vl rfl rfl rfl (Ev.assign rfl rfl) ?_
  refine RG.done ?_
  refine QW.then_ ?_
  refine CW.block ?_
  refine CW.loop4 [(0, _), (2, _)] ⟨rfl, rfl, trivial⟩ (fun (i : Nat) (a : Nat) (out : List (List UInt8)) (v : Value) => [(5, .int .i64 i), (4, .int .i64 a), (3, v)]) (fun i a out v w' => (WS l i a out ∧ Own w' w.heap.size 9 1 encT v out) ∧ Ex w w') (fun i a out v => l.length + 1 - i) (0) (0) ([]) (.slice none 0 0) ⟨rfl, rfl, rfl, trivial⟩ ⟨⟨ws_start l, Own.nil_ _ _ _ _ _⟩, hB0⟩ ?_
  rintro i a out v wl1 ⟨⟨hws, hown⟩, hxwl1⟩
  refine CW.sub (S' := [(5, _), (4, _), (3, _), (0, _), (2, _)]) ⟨rfl, rfl, rfl, rfl, rfl, trivial⟩ ?_
  obtain ⟨hw1, hw2, hw3, hw4, hw5⟩ := id hws
  refine CW.seq ?_
  refine CW.seq ?_
  refine CW.region ?_
  refine RG.vl rfl rfl rfl (Ev.move rfl rfl) ?_
  refine RG.vl rfl rfl rfl (Ev.move rfl rfl) ?_
  refine RG.vl rfl rfl rfl (Ev.lenStr rfl rfl rfl Try.underlying9) ?_
  refine RG.vl rfl rfl rfl (Ev.leq rfl rfl rfl) ?_
  refine RG.done ?_
  refine QW.then_ ?_
  refine CW.condP rfl (fun hc2 => ?_) (fun hc2 => ?_)
  · refine CW.skip ?_
    refine QW.then_ ?_
    refine CW.seq ?_
    refine CW.block ?_
    refine CW.seq ?_
    refine CW.region ?_
    refine RG.vl rfl rfl rfl (Ev.move rfl rfl) ?_
    refine RG.vl rfl rfl rfl (Ev.move rfl rfl) ?_
    refine RG.vl rfl rfl rfl (Ev.lenStr rfl rfl rfl Try.underlying9) ?_
    refine RG.vl rfl rfl rfl (Ev.eqI rfl rfl rfl) ?_
    refine RG.vl rfl rfl rfl (Ev.move rfl rfl) ?_
    refine RG.split (d := 16) rfl (fun hg3 => ?_) (fun hg3 => ?_)
    · refine RG.pass rfl rfl rfl ?_
      refine RG.pass rfl rfl rfl ?_
      refine RG.pass rfl rfl rfl ?_
      refine RG.pass rfl rfl rfl ?_
      refine RG.vl rfl rfl rfl (Ev.pickT rfl rfl rfl) ?_
      refine RG.done ?_
      refine QW.sub (S' := [(0, _), (2, _), (3, _), (4, _), (5, _), (21, _)]) ⟨rfl, rfl, rfl, rfl, rfl, rfl, trivial⟩ ?_
      refine QW.then_ ?_
      refine CW.condT rfl ?_
      refine CW.seq ?_
      refine CW.seq ?_
      refine CW.region ?_
      refine RG.vl rfl rfl rfl (Ev.move rfl rfl) ?_
      refine RG.vl rfl rfl rfl (Ev.move rfl rfl) ?_
      refine RG.vl rfl rfl rfl (Ev.gtr rfl rfl rfl) ?_
      refine RG.done ?_
      refine QW.then_ ?_
      refine CW.condP rfl (fun hc4 => ?_) (fun hc4 => ?_)
      · refine CW.region ?_
        refine RG.vl rfl rfl rfl (Ev.move rfl rfl) ?_
        refine RG.vl rfl rfl rfl (Ev.move rfl rfl) ?_
        refine RG.vl rfl rfl rfl (Ev.move rfl rfl) ?_
        refine RG.vl rfl rfl rfl (Ev.move rfl rfl) ?_
        refine RG.vl rfl rfl rfl ((Ev.cutStr (i := a) (j := i) rfl rfl Try.underlying9 rfl rfl (by omega) (by rw [sbytes]; omega)).conv (congrArg Value.string (bx_cut l a i))) ?_
        refine RG.litO (os := [.tmp 29]) (enc := encT) ([(l.take i).drop a]) rfl rfl rfl rfl rfl rfl rfl Try.underlying32 inf_9 rfl rfl rfl rfl rfl encT_len rfl rfl (fun v5 wk6 hxwk6 hown7 hnew8 => ?_)
        replace hxwl1 := Ex.tr hxwl1 hxwk6
        have hE9 := hxwk6
        refine RG.appO rfl rfl rfl rfl rfl rfl rfl Try.underlying32 inf_9 rfl rfl encT_len (fun _ => rfl) (Own.ext hown hE9) ((hown7.rdl encT_len)) (by show _ + 1 ≤ maxLen; simp only [maxLen]; omega) (by show (_ + 1) * _ ≤ _; omega) (hxwl1.size) (fun v10 wa11 hown12 hgr13 hat14 => ?_)
        replace hxwl1 := own_block (Own.ext hown hE9) hxwl1 hgr13 (Nat.le_refl _) hxwl1.size
        refine RG.vl rfl rfl rfl (Ev.assign rfl rfl) ?_
        refine RG.done ?_
        refine QW.then_ ?_
        refine CW.region ?_
        refine RG.vl rfl rfl rfl (Ev.move rfl rfl) ?_
        refine RG.vl rfl rfl rfl (Ev.addI rfl rfl rfl (by omega)) ?_
        refine RG.vl rfl rfl rfl (Ev.assign rfl rfl) ?_
        refine RG.done ?_
        refine QW.sub (S' := [(0, _), (2, _), (3, _), (4, _), (5, _)]) ⟨rfl, rfl, rfl, rfl, rfl, trivial⟩ ?_
        refine QW.blockN ?_
        refine QW.then_ ?_
        refine CW.region ?_
        refine RG.vl rfl rfl rfl (Ev.move rfl rfl) ?_
        refine RG.vl rfl rfl rfl (Ev.addI rfl rfl rfl (by omega)) ?_
        refine RG.vl rfl rfl rfl (Ev.assign rfl rfl) ?_
        refine RG.done ?_
        refine QW.round4 (i + 1) (i + 1) (out ++ [(l.take i).drop a]) (v10) ⟨rfl, rfl, rfl, trivial⟩ ⟨rfl, rfl, trivial⟩ ⟨⟨ws_cut hws (by omega) (by first | exact .inl (by omega) | exact .inr (by rw [hc]; congr 1; exact UInt8.toNat_inj.1 (by show c.toNat = 32; omega))) (by omega), hown12⟩, (Ex.tr hB0 hxwl1)⟩ (by omega)
      · refine CW.skip ?_
        refine QW.then_ ?_
        refine CW.region ?_
        refine RG.vl rfl rfl rfl (Ev.move rfl rfl) ?_
        refine RG.vl rfl rfl rfl (Ev.addI rfl rfl rfl (by omega)) ?_
        refine RG.vl rfl rfl rfl (Ev.assign rfl rfl) ?_
        refine RG.done ?_
        refine QW.blockN ?_
        refine QW.then_ ?_
        refine CW.region ?_
        refine RG.vl rfl rfl rfl (Ev.move rfl rfl) ?_
        refine RG.vl rfl rfl rfl (Ev.addI rfl rfl rfl (by omega)) ?_
        refine RG.vl rfl rfl rfl (Ev.assign rfl rfl) ?_
        refine RG.done ?_
        refine QW.round4 (i + 1) (i + 1) (out) (v) ⟨rfl, rfl, rfl, trivial⟩ ⟨rfl, rfl, trivial⟩ ⟨⟨ws_skip hws (by omega) (by first | exact .inl (by omega) | exact .inr (by rw [hc]; congr 1; exact UInt8.toNat_inj.1 (by show c.toNat = 32; omega))) (by omega), hown⟩, (Ex.tr hB0 hxwl1)⟩ (by omega)
    · refine RG.vl rfl rfl rfl (Ev.move rfl rfl) ?_
      refine RG.vl rfl rfl rfl (Ev.move rfl rfl) ?_
      obtain ⟨c, hc⟩ : ∃ c, l[i]? = some c := ⟨_, List.getElem?_eq_getElem (by omega)⟩
      refine RG.vl rfl rfl rfl (Ev.byteAt rfl rfl rfl Try.underlying9 (by omega) (hc)) ?_
      refine RG.vl rfl rfl rfl (Ev.eqI rfl rfl rfl) ?_
      refine RG.vl rfl rfl rfl (Ev.pickF rfl rfl rfl) ?_
      refine RG.done ?_
      refine QW.sub (S' := [(0, _), (2, _), (3, _), (4, _), (5, _), (21, _)]) ⟨rfl, rfl, rfl, rfl, rfl, rfl, trivial⟩ ?_
      refine QW.then_ ?_
      refine CW.condP rfl (fun hc15 => ?_) (fun hc15 => ?_)
      · refine CW.seq ?_
        refine CW.seq ?_
        refine CW.region ?_
        refine RG.vl rfl rfl rfl (Ev.move rfl rfl) ?_
        refine RG.vl rfl rfl rfl (Ev.move rfl rfl) ?_
        refine RG.vl rfl rfl rfl (Ev.gtr rfl rfl rfl) ?_
        refine RG.done ?_
        refine QW.then_ ?_
        refine CW.condP rfl (fun hc16 => ?_) (fun hc16 => ?_)
        · refine CW.region ?_
          refine RG.vl rfl rfl rfl (Ev.move rfl rfl) ?_
          refine RG.vl rfl rfl rfl (Ev.move rfl rfl) ?_
          refine RG.vl rfl rfl rfl (Ev.move rfl rfl) ?_
          refine RG.vl rfl rfl rfl (Ev.move rfl rfl) ?_
          refine RG.vl rfl rfl rfl ((Ev.cutStr (i := a) (j := i) rfl rfl Try.underlying9 rfl rfl (by omega) (by rw [sbytes]; omega)).conv (congrArg Value.string (bx_cut l a i))) ?_
          refine RG.litO (os := [.tmp 29]) (enc := encT) ([(l.take i).drop a]) rfl rfl rfl rfl rfl rfl rfl Try.underlying32 inf_9 rfl rfl rfl rfl rfl encT_len rfl rfl (fun v17 wk18 hxwk18 hown19 hnew20 => ?_)
          replace hxwl1 := Ex.tr hxwl1 hxwk18
          have hE21 := hxwk18
          refine RG.appO rfl rfl rfl rfl rfl rfl rfl Try.underlying32 inf_9 rfl rfl encT_len (fun _ => rfl) (Own.ext hown hE21) ((hown19.rdl encT_len)) (by show _ + 1 ≤ maxLen; simp only [maxLen]; omega) (by show (_ + 1) * _ ≤ _; omega) (hxwl1.size) (fun v22 wa23 hown24 hgr25 hat26 => ?_)
          replace hxwl1 := own_block (Own.ext hown hE21) hxwl1 hgr25 (Nat.le_refl _) hxwl1.size
          refine RG.vl rfl rfl rfl (Ev.assign rfl rfl) ?_
          refine RG.done ?_
          refine QW.then_ ?_
          refine CW.region ?_
          refine RG.vl rfl rfl rfl (Ev.move rfl rfl) ?_
          refine RG.vl rfl rfl rfl (Ev.addI rfl rfl rfl (by omega)) ?_
          refine RG.vl rfl rfl rfl (Ev.assign rfl rfl) ?_
          refine RG.done ?_
          refine QW.sub (S' := [(0, _), (2, _), (3, _), (4, _), (5, _)]) ⟨rfl, rfl, rfl, rfl, rfl, trivial⟩ ?_
          refine QW.blockN ?_
          refine QW.then_ ?_
          refine CW.region ?_
          refine RG.vl rfl rfl rfl (Ev.move rfl rfl) ?_
          refine RG.vl rfl rfl rfl (Ev.addI rfl rfl rfl (by omega)) ?_
          refine RG.vl rfl rfl rfl (Ev.assign rfl rfl) ?_
          refine RG.done ?_
          refine QW.round4 (i + 1) (i + 1) (out ++ [(l.take i).drop a]) (v22) ⟨rfl, rfl, rfl, trivial⟩ ⟨rfl, rfl, trivial⟩ ⟨⟨ws_cut hws (by omega) (by first | exact .inl (by omega) | exact .inr (by rw [hc]; congr 1; exact UInt8.toNat_inj.1 (by show c.toNat = 32; omega))) (by omega), hown24⟩, (Ex.tr hB0 hxwl1)⟩ (by omega)
        · refine CW.skip ?_
          refine QW.then_ ?_
          refine CW.region ?_
          refine RG.vl rfl rfl rfl (Ev.move rfl rfl) ?_
          refine RG.vl rfl rfl rfl (Ev.addI rfl rfl rfl (by omega)) ?_
          refine RG.vl rfl rfl rfl (Ev.assign rfl rfl) ?_
          refine RG.done ?_
          refine QW.blockN ?_
          refine QW.then_ ?_
          refine CW.region ?_
          refine RG.vl rfl rfl rfl (Ev.move rfl rfl) ?_
          refine RG.vl rfl rfl rfl (Ev.addI rfl rfl rfl (by omega)) ?_
          refine RG.vl rfl rfl rfl (Ev.assign rfl rfl) ?_
          refine RG.done ?_
          refine QW.round4 (i + 1) (i + 1) (out) (v) ⟨rfl, rfl, rfl, trivial⟩ ⟨rfl, rfl, trivial⟩ ⟨⟨ws_skip hws (by omega) (by first | exact .inl (by omega) | exact .inr (by rw [hc]; congr 1; exact UInt8.toNat_inj.1 (by show c.toNat = 32; omega))) (by omega), hown⟩, (Ex.tr hB0 hxwl1)⟩ (by omega)
      · refine CW.skip ?_
        refine QW.blockN ?_
        refine QW.then_ ?_
        refine CW.region ?_
        refine RG.vl rfl rfl rfl (Ev.move rfl rfl) ?_
        refine RG.vl rfl rfl rfl (Ev.addI rfl rfl rfl (by omega)) ?_
        refine RG.vl rfl rfl rfl (Ev.assign rfl rfl) ?_
        refine RG.done ?_
        refine QW.round4 (i + 1) (a) (out) (v) ⟨rfl, rfl, rfl, trivial⟩ ⟨rfl, rfl, trivial⟩ ⟨⟨ws_keep hws hc (fun e => by have e2 : c.toNat = 32 := (by rw [e]; rfl); omega), hown⟩, (Ex.tr hB0 hxwl1)⟩ (by omega)
  · refine CW.exit ?_
    refine QW.thenExit ?_
    refine QW.thenExit ?_
    refine QW.blockHit ?_
    refine QW.then_ ?_
    refine CW.seq ?_
    refine CW.region ?_
    refine RG.vl rfl rfl rfl (Ev.move rfl rfl) ?_
    refine RG.vl rfl rfl rfl (Ev.assign rfl rfl) ?_
    refine RG.done ?_
    refine QW.then_ ?_
    refine CW.ret ?_
    refine QW.ret1 rfl rfl ?_
    have hB := (Ex.tr hB0 hxwl1)
    rw [ws_end hws (by omega)] at hown
    exact ⟨hown, hB⟩

end Go.Proofs.Ytehlnkhbbnddmaa
