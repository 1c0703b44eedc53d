/- Walks (HF). Written by program. -/
import Derived.Test.YtnecppiamecemaaT
import Derived.Test.YtnecppiamecemaaHE
namespace Go.Proofs.Ytnecppiamecemaa
open Go.RowKit
set_option maxRecDepth 100000 in
set_option maxHeartbeats 1000000 in
theorem places_ret (s : Su) (u : Value) (l : List Br) (w : World) (hl : RdL w 3 Br.c u l) (hlen : l.length ≤ 1000) :
    Ret Try.prog 25 [s.v, u] w (fun v w' => ∃ m, v = .tuple #[m, .int .i64 (errOf s l)] ∧ (errOf s l = 0 → ∃ g, m = .map (some g) ∧ w.heap.size ≤ g ∧ Mp w' g (fun i : Int => Value.int .i64 i) (foundOf s l)) ∧ Ex w w') := by
  have hB0 : Ex w w := Ex.rfl_ _
  refine Ret.of Try.func25 rfl Try.ntmps25 rfl ?_
  refine CW.seq ?_
  refine CW.region ?_
  refine RG.box rfl rfl rfl rfl rfl (fun g1 w1 eg1 hx1 hb1 => ?_)
  have hE2 := hx1
  refine RG.vl rfl rfl rfl (Ev.assign rfl rfl) ?_
  refine RG.vl rfl rfl rfl (Ev.assign rfl rfl) ?_
  refine RG.done ?_
  refine QW.then_ ?_
  refine CW.seq ?_
  refine CW.seq ?_
  refine CW.region ?_
  refine RG.vl rfl rfl rfl (Ev.move rfl rfl) ?_
  refine RG.vl rfl rfl rfl (Ev.lenL rfl rfl rfl Try.underlying24 ((hl.ext hE2))) ?_
  refine RG.vl rfl rfl rfl (Ev.gtr rfl rfl rfl) ?_
  refine RG.done ?_
  refine QW.then_ ?_
  refine CW.condP rfl (fun hc3 => ?_) (fun hc3 => ?_)
  · refine CW.seq ?_
    refine CW.region ?_
    refine RG.vl rfl rfl rfl (Ev.assign rfl rfl) ?_
    refine RG.vl rfl rfl rfl (Ev.assign rfl rfl) ?_
    refine RG.done ?_
    refine QW.then_ ?_
    refine CW.ret ?_
    refine QW.thenRet ?_
    refine QW.ret2 rfl rfl rfl ?_
    have hB := (Ex.tr hB0 hE2)
    have he : errOf s l = 5 := by unfold errOf; rw [if_pos (by omega)]
    exact ⟨_, by rw [he], fun h => absurd h (by rw [he]; decide), hB⟩
  · refine CW.skip ?_
    refine QW.then_ ?_
    refine CW.seq ?_
    refine CW.seq ?_
    refine CW.region ?_
    refine RG.vl rfl rfl rfl (Ev.ldAgg rfl rfl Try.underlying23 rfl sz_23 rfl (hb1.cells)) ?_
    refine RG.call rfl rfl rfl rfl rfl rfl rfl en_15 (right_ret _ _) ?_
    rintro _ w4 ⟨rfl, hx4⟩
    replace hE2 := Ex.tr hE2 hx4
    have hE5 := hx4
    refine RG.vl rfl rfl rfl (Ev.notP rfl rfl) ?_
    refine RG.done ?_
    refine QW.then_ ?_
    refine CW.condP rfl (fun hc6 => ?_) (fun hc6 => ?_)
    · refine CW.seq ?_
      have hs : ¬ Okay s := by assumption
      refine CW.region ?_
      refine RG.vl rfl rfl rfl (Ev.assign rfl rfl) ?_
      refine RG.vl rfl rfl rfl (Ev.assign rfl rfl) ?_
      refine RG.done ?_
      refine QW.then_ ?_
      refine CW.ret ?_
      refine QW.thenRet ?_
      refine QW.ret2 rfl rfl rfl ?_
      have hB := (Ex.tr hB0 hE2)
      have he : errOf s l = 2 := by unfold errOf; rw [if_neg (by omega), if_pos hs]
      exact ⟨_, by rw [he], fun h => absurd h (by rw [he]; decide), hB⟩
    · refine CW.skip ?_
      refine QW.then_ ?_
      refine CW.seq ?_
      refine CW.seq ?_
      have hs : Okay s := Decidable.not_not.1 (by assumption)
      obtain ⟨a1, a2, a3, a4, a5, a6, a7, a8, a9, a10, a11⟩ := id hs
      refine CW.region ?_
      refine RG.vl rfl rfl rfl (Ev.move rfl rfl) ?_
      refine RG.vl rfl rfl rfl (Ev.lenL rfl rfl rfl Try.underlying24 ((hl.ext hE2))) ?_
      refine RG.vl rfl rfl rfl (Ev.move rfl rfl) ?_
      refine RG.done ?_
      refine QW.then_ ?_
      refine CW.block ?_
      replace hl := (hl.ext hE2)
      replace hb1 := (hb1.ext hE5)
      have hR7 := (Ex.tr hB0 hE2)
      refine CW.loop1 [(1, _), (2, _), (21, _), (22, _)] ⟨rfl, rfl, rfl, rfl, trivial⟩ (fun (i : Nat) => [(23, .int .i64 i)]) (fun i w' => (i ≤ l.length ∧ ∀ j b, j < i → l[j]? = some b → InB b) ∧ Ex w4 w') (fun i => l.length - i) (0) ⟨rfl, trivial⟩ ⟨⟨Nat.zero_le _, fun j b h => absurd h (by omega)⟩, (Ex.rfl_ _)⟩ ?_
      rintro i wl8 ⟨⟨hi, hall⟩, hxwl8⟩
      refine CW.sub (S' := [(23, _), (1, _), (2, _), (21, _), (22, _)]) ⟨rfl, rfl, rfl, rfl, rfl, trivial⟩ ?_
      refine CW.seq ?_
      refine CW.region ?_
      refine RG.vl rfl rfl rfl (Ev.lss rfl rfl rfl) ?_
      refine RG.done ?_
      refine QW.then_ ?_
      refine CW.seq ?_
      refine CW.condP rfl (fun hc9 => ?_) (fun hc9 => ?_)
      · refine CW.skip ?_
        refine QW.then_ ?_
        refine CW.seq ?_
        refine CW.block ?_
        refine CW.seq ?_
        obtain ⟨b, hk⟩ : ∃ b, l[i]? = some b := ⟨l[i]'(by omega), List.getElem?_eq_getElem _⟩
        
        refine CW.region ?_
        refine RG.idxL rfl rfl rfl rfl rfl rfl Try.underlying24 sz_48 ((hl.ext hxwl8)) (hk) (fun p10 hp10b hp10 => ?_)
        refine RG.vl rfl rfl rfl (Ev.ldAgg rfl rfl Try.underlying48 rfl sz_48 rfl (hp10)) ?_
        refine RG.local_ rfl rfl rfl rfl (fun _ => rfl) rfl rfl (fun _ => rfl) inf_48 rfl rfl rfl (fun g11 w11 eg11 hx11 hb11 => ?_)
        have hle12 : w4.heap.size ≤ g11 := by have := hxwl8.size; omega
        have hle13 : wl8.heap.size ≤ g11 := by have := (Ex.rfl_ wl8).size; omega
        have hlt14 : g1 < g11 := by have := Blk.lt (hb1.ext hxwl8); omega
        replace hxwl8 := Ex.tr hxwl8 hx11
        have hE15 := hx11
        refine RG.done ?_
        refine QW.then_ ?_
        refine CW.seq ?_
        refine CW.region ?_
        refine RG.vl rfl rfl rfl (Ev.fld rfl rfl fld_48_0) ?_
        refine RG.vl rfl rfl rfl (Ev.ldAt rfl rfl Try.underlying3 rfl (hb11.cells) (rfl)) ?_
        refine RG.call rfl rfl rfl rfl rfl rfl rfl en_36 (within_ret _ _ _) ?_
        rintro _ w16 ⟨rfl, hx16⟩
        replace hxwl8 := Ex.tr hxwl8 hx16
        replace hE15 := Ex.tr hE15 hx16
        have hE17 := hx16
        refine RG.vl rfl rfl rfl (Ev.notP rfl rfl) ?_
        refine RG.vl rfl rfl rfl (Ev.move rfl rfl) ?_
        refine RG.split (d := 31) rfl (fun hg18 => ?_) (fun hg18 => ?_)
        · refine RG.pass rfl rfl rfl ?_
          refine RG.pass rfl rfl rfl ?_
          refine RG.pass rfl rfl rfl ?_
          refine RG.pass rfl rfl rfl ?_
          refine RG.vl rfl rfl rfl (Ev.pickT rfl rfl rfl) ?_
          refine RG.vl rfl rfl rfl (Ev.move rfl rfl) ?_
          refine RG.pass rfl rfl rfl ?_
          refine RG.pass rfl rfl rfl ?_
          refine RG.pass rfl rfl rfl ?_
          refine RG.pass rfl rfl rfl ?_
          refine RG.vl rfl rfl rfl (Ev.pickT rfl rfl rfl) ?_
          refine RG.done ?_
          refine QW.sub (S' := [(1, _), (2, _), (21, _), (22, _), (23, _), (42, _)]) ⟨rfl, rfl, rfl, rfl, rfl, rfl, trivial⟩ ?_
          refine QW.then_ ?_
          refine CW.condT rfl ?_
          refine CW.seq ?_
          refine CW.region ?_
          refine RG.vl rfl rfl rfl (Ev.assign rfl rfl) ?_
          refine RG.vl rfl rfl rfl (Ev.assign rfl rfl) ?_
          refine RG.done ?_
          refine QW.then_ ?_
          refine CW.ret ?_
          refine QW.blockR ?_
          refine QW.thenRet ?_
          refine QW.thenRet ?_
          refine QW.blockR ?_
          refine QW.thenRet ?_
          refine QW.ret2 rfl rfl rfl ?_
          have hB := (Ex.tr hR7 hxwl8)
          have he : errOf s l = 2 := by unfold errOf; rw [if_neg (by omega), if_neg (by simpa using hs), if_pos]; intro hh; have := hh b (List.mem_of_getElem? hk); unfold InB at this; omega
          exact ⟨_, by rw [he], fun h => absurd h (by rw [he]; decide), hB⟩
        · refine RG.vl rfl rfl rfl (Ev.fld rfl rfl fld_48_1) ?_
          refine RG.vl rfl rfl rfl (Ev.ldAt rfl rfl Try.underlying3 rfl ((hb11.ext hE17).cells) (rfl)) ?_
          refine RG.call rfl rfl rfl rfl rfl rfl rfl en_36 (within_ret _ _ _) ?_
          rintro _ w19 ⟨rfl, hx19⟩
          replace hxwl8 := Ex.tr hxwl8 hx19
          replace hE15 := Ex.tr hE15 hx19
          replace hE17 := Ex.tr hE17 hx19
          refine RG.vl rfl rfl rfl (Ev.notP rfl rfl) ?_
          refine RG.vl rfl rfl rfl (Ev.pickF rfl rfl rfl) ?_
          refine RG.vl rfl rfl rfl (Ev.move rfl rfl) ?_
          refine RG.split (d := 37) rfl (fun hg20 => ?_) (fun hg20 => ?_)
          · refine RG.pass rfl rfl rfl ?_
            refine RG.pass rfl rfl rfl ?_
            refine RG.pass rfl rfl rfl ?_
            refine RG.pass rfl rfl rfl ?_
            refine RG.vl rfl rfl rfl (Ev.pickT rfl rfl rfl) ?_
            refine RG.done ?_
            refine QW.sub (S' := [(1, _), (2, _), (21, _), (22, _), (23, _), (42, _)]) ⟨rfl, rfl, rfl, rfl, rfl, rfl, trivial⟩ ?_
            refine QW.then_ ?_
            refine CW.condT rfl ?_
            refine CW.seq ?_
            refine CW.region ?_
            refine RG.vl rfl rfl rfl (Ev.assign rfl rfl) ?_
            refine RG.vl rfl rfl rfl (Ev.assign rfl rfl) ?_
            refine RG.done ?_
            refine QW.then_ ?_
            refine CW.ret ?_
            refine QW.blockR ?_
            refine QW.thenRet ?_
            refine QW.thenRet ?_
            refine QW.blockR ?_
            refine QW.thenRet ?_
            refine QW.ret2 rfl rfl rfl ?_
            have hB := (Ex.tr hR7 hxwl8)
            have he : errOf s l = 2 := by unfold errOf; rw [if_neg (by omega), if_neg (by simpa using hs), if_pos]; intro hh; have := hh b (List.mem_of_getElem? hk); unfold InB at this; omega
            exact ⟨_, by rw [he], fun h => absurd h (by rw [he]; decide), hB⟩
          · refine RG.vl rfl rfl rfl (Ev.fld rfl rfl fld_48_2) ?_
            refine RG.vl rfl rfl rfl (Ev.ldAt rfl rfl Try.underlying3 rfl ((hb11.ext hE17).cells) (rfl)) ?_
            refine RG.call rfl rfl rfl rfl rfl rfl rfl en_36 (within_ret _ _ _) ?_
            rintro _ w21 ⟨rfl, hx21⟩
            replace hxwl8 := Ex.tr hxwl8 hx21
            replace hE15 := Ex.tr hE15 hx21
            replace hE17 := Ex.tr hE17 hx21
            refine RG.vl rfl rfl rfl (Ev.notP rfl rfl) ?_
            refine RG.vl rfl rfl rfl (Ev.pickF rfl rfl rfl) ?_
            refine RG.done ?_
            refine QW.sub (S' := [(1, _), (2, _), (21, _), (22, _), (23, _), (42, _)]) ⟨rfl, rfl, rfl, rfl, rfl, rfl, trivial⟩ ?_
            refine QW.then_ ?_
            refine CW.condP rfl (fun hc22 => ?_) (fun hc22 => ?_)
            · refine CW.seq ?_
              refine CW.region ?_
              refine RG.vl rfl rfl rfl (Ev.assign rfl rfl) ?_
              refine RG.vl rfl rfl rfl (Ev.assign rfl rfl) ?_
              refine RG.done ?_
              refine QW.then_ ?_
              refine CW.ret ?_
              refine QW.blockR ?_
              refine QW.thenRet ?_
              refine QW.thenRet ?_
              refine QW.blockR ?_
              refine QW.thenRet ?_
              refine QW.ret2 rfl rfl rfl ?_
              have hB := (Ex.tr hR7 hxwl8)
              have he : errOf s l = 2 := by unfold errOf; rw [if_neg (by omega), if_neg (by simpa using hs), if_pos]; intro hh; have := hh b (List.mem_of_getElem? hk); unfold InB at this; omega
              exact ⟨_, by rw [he], fun h => absurd h (by rw [he]; decide), hB⟩
            · refine CW.skip ?_
              refine QW.blockN ?_
              refine QW.then_ ?_
              refine CW.region ?_
              refine RG.vl rfl rfl rfl (Ev.addI rfl rfl rfl (by omega)) ?_
              refine RG.vl rfl rfl rfl (Ev.move rfl rfl) ?_
              refine RG.done ?_
              refine QW.round1 (i + 1) ⟨rfl, trivial⟩ ⟨rfl, rfl, rfl, rfl, trivial⟩ ⟨⟨by omega, fun j b' hj hb' => by rcases Nat.lt_or_ge j i with h | h; exact hall j b' h hb'; obtain rfl : j = i := (by omega); rw [hk] at hb'; injection hb' with hb'; subst hb'; unfold InB; omega⟩, hxwl8⟩ (by omega)
      · refine CW.exit ?_
        refine QW.thenExit ?_
        refine QW.thenExit ?_
        refine QW.blockHit ?_
        refine QW.then_ ?_
        refine CW.seq ?_
        have hB9 : Ex w wl8 := (Ex.tr hR7 hxwl8)
        have hin : ∀ b ∈ l, InB b := fun b hb => by obtain ⟨j, hj, rfl⟩ := List.getElem_of_mem hb; exact hall j _ (by omega) (List.getElem?_eq_getElem _)
        refine CW.region ?_
        replace hl := (hl.ext hxwl8)
        replace hb1 := (hb1.ext hxwl8)
        have hR23 := (Ex.tr hR7 hxwl8)
        have hR24 := hxwl8
        refine RG.mkMap (fun i : Int => Value.int .i64 i) rfl rfl rfl rfl (fun gm w25 egm hx25 hb25 => ?_)
        have hle26 : wl8.heap.size ≤ gm := by have := (Ex.rfl_ wl8).size; omega
        have hlt27 : g1 < gm := by have := Blk.lt hb1; omega
        have hE28 := hx25
        refine RG.vl rfl rfl rfl (Ev.assign rfl rfl) ?_
        refine RG.done ?_
        refine QW.then_ ?_
        refine CW.seq ?_
        refine CW.seq ?_
        refine CW.region ?_
        refine RG.vl rfl rfl rfl (Ev.move rfl rfl) ?_
        refine RG.vl rfl rfl rfl (Ev.lenL rfl rfl rfl Try.underlying24 ((hl.ext hE28))) ?_
        refine RG.vl rfl rfl rfl (Ev.move rfl rfl) ?_
        refine RG.done ?_
        refine QW.then_ ?_
        refine CW.block ?_
        refine CW.loop1 [(2, _), (8, _), (45, _), (46, _)] ⟨rfl, rfl, rfl, rfl, trivial⟩ (fun (i : Nat) => [(47, .int .i64 i)]) (fun i w' => (i ≤ l.length ∧ Fit s (l.take i) ∧ Mp w' gm (fun i : Int => Value.int .i64 i) (foundOf s (l.take i))) ∧ Ex wl8 w') (fun i => l.length - i) (0) ⟨rfl, trivial⟩ ⟨⟨Nat.zero_le _, fit_nil s, hb25⟩, hE28⟩ ?_
        rintro i wl29 ⟨⟨hi, hfit, hmp⟩, hxwl29⟩
        refine CW.sub (S' := [(47, _), (2, _), (8, _), (45, _), (46, _)]) ⟨rfl, rfl, rfl, rfl, rfl, trivial⟩ ?_
        refine CW.seq ?_
        refine CW.region ?_
        refine RG.vl rfl rfl rfl (Ev.lss rfl rfl rfl) ?_
        refine RG.done ?_
        refine QW.then_ ?_
        refine CW.seq ?_
        refine CW.condP rfl (fun hc30 => ?_) (fun hc30 => ?_)
        · refine CW.skip ?_
          refine QW.then_ ?_
          refine CW.seq ?_
          refine CW.block ?_
          refine CW.seq ?_
          obtain ⟨b, hk⟩ : ∃ b, l[i]? = some b := ⟨l[i]'(by omega), List.getElem?_eq_getElem _⟩
          
          refine CW.region ?_
          refine RG.idxL rfl rfl rfl rfl rfl rfl Try.underlying24 sz_48 ((hl.ext hxwl29)) (hk) (fun p31 hp31b hp31 => ?_)
          refine RG.vl rfl rfl rfl (Ev.ldAgg rfl rfl Try.underlying48 rfl sz_48 rfl (hp31)) ?_
          refine RG.local_ rfl rfl rfl rfl (fun _ => rfl) rfl rfl (fun _ => rfl) inf_48 rfl rfl rfl (fun g32 w32 eg32 hx32 hb32 => ?_)
          have hle33 : wl8.heap.size ≤ g32 := by have := hxwl29.size; omega
          have hle34 : wl29.heap.size ≤ g32 := by have := (Ex.rfl_ wl29).size; omega
          have hlt35 : g1 < g32 := by have := Blk.lt (hb1.ext hxwl29); omega
          have hlt36 : gm < g32 := by have := Mp.lt hmp; omega
          replace hxwl29 := Ex.tr hxwl29 hx32
          have hE37 := hx32
          refine RG.done ?_
          refine QW.then_ ?_
          refine CW.seq ?_
          have hib := hin b (List.mem_of_getElem? hk)
          obtain ⟨b1, b2, b3, b4, b5, b6⟩ := id hib
          refine CW.region ?_
          refine RG.vl rfl rfl rfl (Ev.fld rfl rfl fld_48_0) ?_
          refine RG.vl rfl rfl rfl (Ev.ldAt rfl rfl Try.underlying3 rfl (hb32.cells) (rfl)) ?_
          refine RG.vl rfl rfl rfl (Ev.fld rfl rfl fld_23_1) ?_
          refine RG.vl rfl rfl rfl (Ev.ldAt rfl rfl Try.underlying3 rfl ((hb1.ext hxwl29).cells) (rfl)) ?_
          refine RG.vl rfl rfl rfl (Ev.subI rfl rfl rfl (by omega)) ?_
          refine RG.vl rfl rfl rfl (Ev.fld rfl rfl fld_23_3) ?_
          refine RG.vl rfl rfl rfl (Ev.ldAt rfl rfl Try.underlying3 rfl ((hb1.ext hxwl29).cells) (rfl)) ?_
          refine RG.vl rfl rfl rfl (Ev.addI rfl rfl rfl (by omega)) ?_
          refine RG.vl rfl rfl rfl (Ev.assign rfl rfl) ?_
          refine RG.done ?_
          refine QW.then_ ?_
          refine CW.seq ?_
          refine CW.seq ?_
          refine CW.draw [] (.ex) 12 rfl mixed (fun wd38 hxwd38 => ?_)
          replace hxwl29 := Ex.tr hxwl29 hxwd38
          replace hE37 := Ex.tr hE37 hxwd38
          have hE39 := hxwd38
          refine AG.takeW 0 rfl (by kernel_rfl) (by kernel_rfl) rfl rfl rfl (fun _ => Ev.move rfl rfl) ?_
          refine AG.takeW 1 rfl (by kernel_rfl) (by kernel_rfl) rfl rfl rfl (fun _ => Ev.lss rfl rfl rfl) ?_
          refine AG.takeW 2 rfl (by kernel_rfl) (by kernel_rfl) rfl rfl rfl (fun _ => Ev.move rfl rfl) ?_
          refine AG.split (d := 61) rfl (fun hg40 => ?_) (fun hg40 => ?_)
          · refine AG.pass 3 rfl (by kernel_rfl) (by kernel_rfl) rfl rfl rfl ?_
            refine AG.pass 4 rfl (by kernel_rfl) (by kernel_rfl) rfl rfl rfl ?_
            refine AG.pass 5 rfl (by kernel_rfl) (by kernel_rfl) rfl rfl rfl ?_
            refine AG.pass 6 rfl (by kernel_rfl) (by kernel_rfl) rfl rfl rfl ?_
            refine AG.pass 7 rfl (by kernel_rfl) (by kernel_rfl) rfl rfl rfl ?_
            refine AG.pass 8 rfl (by kernel_rfl) (by kernel_rfl) rfl rfl rfl ?_
            refine AG.pass 9 rfl (by kernel_rfl) (by kernel_rfl) rfl rfl rfl ?_
            refine AG.pass 10 rfl (by kernel_rfl) (by kernel_rfl) rfl rfl rfl ?_
            refine AG.takeW 11 rfl (by kernel_rfl) (by kernel_rfl) rfl rfl rfl (fun _ => Ev.pickT rfl rfl rfl) ?_
            refine AG.done (by kernel_rfl) ?_
            refine QW.sub (S' := [(2, _), (8, _), (10, _), (11, _), (45, _), (46, _), (47, _), (70, _)]) ⟨rfl, rfl, rfl, rfl, rfl, rfl, rfl, rfl, trivial⟩ ?_
            refine QW.then_ ?_
            refine CW.condT rfl ?_
            refine CW.seq ?_
            refine CW.region ?_
            refine RG.vl rfl rfl rfl (Ev.assign rfl rfl) ?_
            refine RG.vl rfl rfl rfl (Ev.assign rfl rfl) ?_
            refine RG.done ?_
            refine QW.then_ ?_
            refine CW.ret ?_
            refine QW.thenRet ?_
            refine QW.blockR ?_
            refine QW.thenRet ?_
            refine QW.thenRet ?_
            refine QW.blockR ?_
            refine QW.thenRet ?_
            refine QW.ret2 rfl rfl rfl ?_
            have hB := (Ex.tr hR23 hxwl29)
            have he : errOf s l = 210 := by unfold errOf; rw [if_neg (by omega), if_neg (by simpa using hs), if_neg (by simpa using hin), if_neg]; exact not_fit0 s l i b hk (plc_bad s b (by omega))
            exact ⟨_, by rw [he], fun h => absurd h (by rw [he]; decide), hB⟩
          · refine AG.takeW 3 rfl (by kernel_rfl) (by kernel_rfl) rfl rfl rfl (fun _ => Ev.move rfl rfl) ?_
            refine AG.takeW 4 rfl (by kernel_rfl) (by kernel_rfl) rfl rfl rfl (fun _ => Ev.fld rfl rfl fld_23_2) ?_
            refine AG.take 5 rfl (by kernel_rfl) (by kernel_rfl) rfl rfl rfl (fun wq hq => Ev.ldAt rfl rfl Try.underlying3 rfl (((hb1.ext hxwl29).ext hq).cells) (rfl)) ?_
            refine AG.takeW 6 rfl (by kernel_rfl) (by kernel_rfl) rfl rfl rfl (fun _ => Ev.remI rfl rfl rfl (by omega)) ?_
            refine AG.takeW 7 rfl (by kernel_rfl) (by kernel_rfl) rfl rfl rfl (fun _ => Ev.fld rfl rfl fld_23_3) ?_
            refine AG.take 8 rfl (by kernel_rfl) (by kernel_rfl) rfl rfl rfl (fun wq hq => Ev.ldAt rfl rfl Try.underlying3 rfl (((hb1.ext hxwl29).ext hq).cells) (rfl)) ?_
            refine AG.takeW 9 rfl (by kernel_rfl) (by kernel_rfl) rfl rfl rfl (fun _ => Ev.mulI rfl rfl rfl (by omega)) ?_
            refine AG.takeW 10 rfl (by kernel_rfl) (by kernel_rfl) rfl rfl rfl (fun _ => Ev.gtr rfl rfl rfl) ?_
            refine AG.takeW 11 rfl (by kernel_rfl) (by kernel_rfl) rfl rfl rfl (fun _ => Ev.pickF rfl rfl rfl) ?_
            refine AG.done (by kernel_rfl) ?_
            refine QW.sub (S' := [(2, _), (8, _), (10, _), (11, _), (45, _), (46, _), (47, _), (70, _)]) ⟨rfl, rfl, rfl, rfl, rfl, rfl, rfl, rfl, trivial⟩ ?_
            refine QW.then_ ?_
            refine CW.condP rfl (fun hc41 => ?_) (fun hc41 => ?_)
            · refine CW.seq ?_
              refine CW.region ?_
              refine RG.vl rfl rfl rfl (Ev.assign rfl rfl) ?_
              refine RG.vl rfl rfl rfl (Ev.assign rfl rfl) ?_
              refine RG.done ?_
              refine QW.then_ ?_
              refine CW.ret ?_
              refine QW.thenRet ?_
              refine QW.blockR ?_
              refine QW.thenRet ?_
              refine QW.thenRet ?_
              refine QW.blockR ?_
              refine QW.thenRet ?_
              refine QW.ret2 rfl rfl rfl ?_
              have hB := (Ex.tr hR23 hxwl29)
              have he : errOf s l = 210 := by unfold errOf; rw [if_neg (by omega), if_neg (by simpa using hs), if_neg (by simpa using hin), if_neg]; exact not_fit0 s l i b hk (plc_bad s b (by omega))
              exact ⟨_, by rw [he], fun h => absurd h (by rw [he]; decide), hB⟩
            · refine CW.skip ?_
              refine QW.then_ ?_
              refine CW.seq ?_
              refine CW.region ?_
              refine RG.vl rfl rfl rfl (Ev.move rfl rfl) ?_
              refine RG.vl rfl rfl rfl (Ev.fld rfl rfl fld_23_2) ?_
              refine RG.vl rfl rfl rfl (Ev.ldAt rfl rfl Try.underlying3 rfl ((hb1.ext hxwl29).cells) (rfl)) ?_
              refine RG.vl rfl rfl rfl (Ev.quoI rfl rfl rfl (by omega)) ?_
              refine RG.vl rfl rfl rfl (Ev.assign rfl rfl) ?_
              refine RG.done ?_
              refine QW.then_ ?_
              refine CW.seq ?_
              refine CW.seq ?_
              refine CW.region ?_
              refine RG.vl rfl rfl rfl (Ev.move rfl rfl) ?_
              refine RG.vl rfl rfl rfl (Ev.move rfl rfl) ?_
              refine RG.vl rfl rfl rfl ((Ev.lookOk keyI rfl rfl rfl (hmp.ext hE37) Try.underlying67 Try.underlying3 inf_48).conv (found_look s (l.take i) _ hfit.1)) ?_
              refine RG.vl rfl rfl rfl (Ev.move rfl rfl) ?_
              refine RG.vl rfl rfl rfl (Ev.extract rfl rfl rfl) ?_
              refine RG.vl rfl rfl rfl (Ev.extract rfl rfl rfl) ?_
              refine RG.local_ rfl rfl rfl rfl (fun _ => rfl) rfl rfl (fun _ => rfl) inf_48 rfl rfl rfl (fun g42 w42 eg42 hx42 hb42 => ?_)
              have hle43 : wl8.heap.size ≤ g42 := by have := hxwl29.size; omega
              have hle44 : wl29.heap.size ≤ g42 := by have := hE37.size; omega
              have hle45 : w32.heap.size ≤ g42 := by have := hE39.size; omega
              have hle46 : wd38.heap.size ≤ g42 := by have := (Ex.rfl_ wd38).size; omega
              have hlt47 : g1 < g42 := by have := Blk.lt (hb1.ext hxwl29); omega
              have hlt48 : gm < g42 := by have := Mp.lt (hmp.ext hE37); omega
              have hlt49 : g32 < g42 := by have := Blk.lt (hb32.ext hE39); omega
              replace hxwl29 := Ex.tr hxwl29 hx42
              replace hE37 := Ex.tr hE37 hx42
              replace hE39 := Ex.tr hE39 hx42
              refine RG.vl rfl rfl rfl (Ev.assign rfl rfl) ?_
              refine RG.done ?_
              refine QW.then_ ?_
              refine CW.seq ?_
              refine CW.region ?_
              refine RG.vl rfl rfl rfl (Ev.move rfl rfl) ?_
              refine RG.vl rfl rfl rfl (Ev.move rfl rfl) ?_
              refine RG.splitB (d := 82) rfl (fun hg50 => ?_) (fun hg50 => ?_)
              · refine RG.pass rfl rfl rfl ?_
                refine RG.pass rfl rfl rfl ?_
                refine RG.pass rfl rfl rfl ?_
                refine RG.pass rfl rfl rfl ?_
                refine RG.vl rfl rfl rfl (Ev.pickT rfl rfl rfl) ?_
                refine RG.done ?_
                refine QW.sub (S' := [(2, _), (8, _), (10, _), (12, _), (45, _), (46, _), (47, _), (87, _)]) ⟨rfl, rfl, rfl, rfl, rfl, rfl, rfl, rfl, trivial⟩ ?_
                refine QW.then_ ?_
                refine CW.condT rfl ?_
                refine CW.seq ?_
                refine CW.region ?_
                refine RG.vl rfl rfl rfl (Ev.assign rfl rfl) ?_
                refine RG.vl rfl rfl rfl (Ev.assign rfl rfl) ?_
                refine RG.done ?_
                refine QW.then_ ?_
                refine CW.ret ?_
                refine QW.thenRet ?_
                refine QW.blockR ?_
                refine QW.thenRet ?_
                refine QW.thenRet ?_
                refine QW.blockR ?_
                refine QW.thenRet ?_
                refine QW.ret2 rfl rfl rfl ?_
                have hB := (Ex.tr hR23 hxwl29)
                have he : errOf s l = 210 := by unfold errOf; rw [if_neg (by omega), if_neg (by simpa using hs), if_neg (by simpa using hin), if_neg]; obtain ⟨j, b2, hj, hb2, he2⟩ := found_hit s l i _ hfit.1 (by rw [fbo_iff s _ _ hfit.1]; assumption); exact not_fit s l i j b b2 hk hb2 hj (by rw [he2]; exact plc_good s b (by omega) (by omega) (fun hfar => absurd ((plc_range s b2 _ hs he2).2) (by omega)))
                exact ⟨_, by rw [he], fun h => absurd h (by rw [he]; decide), hB⟩
              · refine RG.vl rfl rfl rfl (Ev.move rfl rfl) ?_
                refine RG.vl rfl rfl rfl (Ev.fld rfl rfl fld_23_0) ?_
                refine RG.vl rfl rfl rfl (Ev.ldAt rfl rfl Try.underlying3 rfl ((hb1.ext hxwl29).cells) (rfl)) ?_
                refine RG.vl rfl rfl rfl (Ev.geq rfl rfl rfl) ?_
                refine RG.vl rfl rfl rfl (Ev.pickF rfl rfl rfl) ?_
                refine RG.done ?_
                refine QW.sub (S' := [(2, _), (8, _), (10, _), (12, _), (45, _), (46, _), (47, _), (87, _)]) ⟨rfl, rfl, rfl, rfl, rfl, rfl, rfl, rfl, trivial⟩ ?_
                refine QW.then_ ?_
                refine CW.condP rfl (fun hc51 => ?_) (fun hc51 => ?_)
                · refine CW.seq ?_
                  refine CW.region ?_
                  refine RG.vl rfl rfl rfl (Ev.assign rfl rfl) ?_
                  refine RG.vl rfl rfl rfl (Ev.assign rfl rfl) ?_
                  refine RG.done ?_
                  refine QW.then_ ?_
                  refine CW.ret ?_
                  refine QW.thenRet ?_
                  refine QW.blockR ?_
                  refine QW.thenRet ?_
                  refine QW.thenRet ?_
                  refine QW.blockR ?_
                  refine QW.thenRet ?_
                  refine QW.ret2 rfl rfl rfl ?_
                  have hB := (Ex.tr hR23 hxwl29)
                  have he : errOf s l = 210 := by unfold errOf; rw [if_neg (by omega), if_neg (by simpa using hs), if_neg (by simpa using hin), if_neg]; exact not_fit0 s l i b hk (plc_far s b (by omega))
                  exact ⟨_, by rw [he], fun h => absurd h (by rw [he]; decide), hB⟩
                · refine CW.skip ?_
                  refine QW.then_ ?_
                  obtain ⟨hno, hne⟩ := found_miss s l i _ hfit.1 (by rw [fbo_iff s _ _ hfit.1]; assumption)
                  have hpg := plc_good s b (by omega) (by omega) (by omega)
                  refine CW.region ?_
                  refine RG.vl rfl rfl rfl (Ev.move rfl rfl) ?_
                  refine RG.vl rfl rfl rfl (Ev.move rfl rfl) ?_
                  refine RG.vl rfl rfl rfl (Ev.ldAgg rfl rfl Try.underlying48 rfl sz_48 rfl ((hb32.ext hE39).cells)) ?_
                  refine RG.mapPut keyI rfl rfl (.inl rfl) rfl rfl rfl Try.underlying67 Try.underlying3 (hmp.ext hE37) (hno) (fun wm52 hwm52 hbwm52 => ?_)
                  replace hb32 := Blk.far (hb32.ext hE39) hwm52 (by omega)
                  replace hb42 := Blk.far hb42 hwm52 (by omega)
                  replace hxwl29 := Wr.below hxwl29 hwm52 hle26
                  refine RG.done ?_
                  refine QW.blockN ?_
                  refine QW.then_ ?_
                  refine CW.region ?_
                  refine RG.vl rfl rfl rfl (Ev.addI rfl rfl rfl (by omega)) ?_
                  refine RG.vl rfl rfl rfl (Ev.move rfl rfl) ?_
                  refine RG.done ?_
                  refine QW.round1 (i + 1) ⟨rfl, trivial⟩ ⟨rfl, rfl, rfl, rfl, trivial⟩ ⟨⟨by omega, by rw [take_snoc l i b hk, fit_snoc]; exact ⟨hfit, by rw [hpg]; rfl, fun b' hb' => by rw [hpg]; exact hne b' hb'⟩, by rw [found_snoc s l i b _ hk hpg]; exact hbwm52⟩, hxwl29⟩ (by omega)
        · refine CW.exit ?_
          refine QW.thenExit ?_
          refine QW.thenExit ?_
          refine QW.blockHit ?_
          refine QW.then_ ?_
          refine CW.seq ?_
          refine CW.region ?_
          refine RG.vl rfl rfl rfl (Ev.move rfl rfl) ?_
          refine RG.vl rfl rfl rfl (Ev.assign rfl rfl) ?_
          refine RG.vl rfl rfl rfl (Ev.assign rfl rfl) ?_
          refine RG.done ?_
          refine QW.then_ ?_
          refine CW.ret ?_
          refine QW.ret2 rfl rfl rfl ?_
          have hB := (Ex.tr hR23 hxwl29)
          have hi2 : l.take i = l := List.take_of_length_le (by omega)
          rw [hi2] at hfit hmp
          have he : errOf s l = 0 := (err0_iff s l).2 ⟨by omega, hs, hin, hfit⟩
          exact ⟨_, by rw [he], fun _ => ⟨gm, rfl, by have := hB9.size; omega, hmp⟩, hB⟩

end Go.Proofs.Ytnecppiamecemaa
