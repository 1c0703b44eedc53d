/- Walks (HF). Written by program. -/
import Derived.Test.YtnecppiamecemaaT
import Derived.Test.YtnecppiamecemaaHE
namespace Go.Proofs.Ytnecppiamecemaa
open Go.RowKit
set_option maxRecDepth 100000 in
set_option maxHeartbeats 1000000 in
theorem places_ret (s : Su) (u : Value) (l : List Br) (w : World) (hl : RdL w 3 Br.c u l) (hlen : l.length ≤ 1000) :
    Ret Try.prog 25 [s.v, u] w (fun v w' => ∃ m, v = .tuple #[m, .int .i64 (errOf s l)] ∧ (errOf s l = 0 → ∃ g, m = .map (some g) ∧ w.heap.size ≤ g ∧ Mp w' g (fun i : Int => Value.int .i64 i) (foundOf s l)) ∧ Ex w w') := by
  have hB0 : Ex w w := Ex.rfl_ _
  refine Ret.of Try.func25 rfl Try.ntmps25 rfl ?_
  refine CW.seq ?_
  refine CW.region ?_
  refine RG.box rfl rfl rfl rfl rfl (fun g1 w1 eg1 hx1 hb1 => ?_)
  have hle2 : w.heap.size ≤ g1 := by have := (Ex.rfl_ w).size; omega
  have hE3 := hx1
  refine RG.vl rfl rfl rfl (Ev.assign rfl rfl) ?_
  refine RG.vl rfl rfl rfl (Ev.assign rfl rfl) ?_
  refine RG.done ?_
  refine QW.then_ ?_
  refine CW.seq ?_
  refine CW.seq ?_
  refine CW.region ?_
  refine RG.vl rfl rfl rfl (Ev.move rfl rfl) ?_
  refine RG.vl rfl rfl rfl (Ev.lenL rfl rfl rfl Try.underlying24 ((hl.ext hE3))) ?_
  refine RG.vl rfl rfl rfl (Ev.gtr rfl rfl rfl) ?_
  refine RG.done ?_
  refine QW.then_ ?_
  refine CW.condP rfl (fun hc4 => ?_) (fun hc4 => ?_)
  · refine CW.seq ?_
    refine CW.region ?_
    refine RG.vl rfl rfl rfl (Ev.assign rfl rfl) ?_
    refine RG.vl rfl rfl rfl (Ev.assign rfl rfl) ?_
    refine RG.done ?_
    refine QW.then_ ?_
    refine CW.ret ?_
    refine QW.thenRet ?_
    refine QW.ret2 rfl rfl rfl ?_
    have hB := (Ex.tr hB0 hE3)
    have he : errOf s l = 5 := by unfold errOf; rw [if_pos (by omega)]
    exact ⟨_, by rw [he], fun h => absurd h (by rw [he]; decide), hB⟩
  · refine CW.skip ?_
    refine QW.then_ ?_
    refine CW.seq ?_
    refine CW.seq ?_
    refine CW.region ?_
    refine RG.vl rfl rfl rfl (Ev.ldAgg rfl rfl Try.underlying23 rfl sz_23 rfl (hb1.cells)) ?_
    refine RG.call rfl rfl rfl rfl rfl rfl rfl en_15 (right_ret _ _) ?_
    rintro _ w5 ⟨rfl, hx5⟩
    replace hE3 := Ex.tr hE3 hx5
    have hE6 := hx5
    refine RG.vl rfl rfl rfl (Ev.notP rfl rfl) ?_
    refine RG.done ?_
    refine QW.then_ ?_
    refine CW.condP rfl (fun hc7 => ?_) (fun hc7 => ?_)
    · refine CW.seq ?_
      have hs : ¬ Okay s := by assumption
      refine CW.region ?_
      refine RG.vl rfl rfl rfl (Ev.assign rfl rfl) ?_
      refine RG.vl rfl rfl rfl (Ev.assign rfl rfl) ?_
      refine RG.done ?_
      refine QW.then_ ?_
      refine CW.ret ?_
      refine QW.thenRet ?_
      refine QW.ret2 rfl rfl rfl ?_
      have hB := (Ex.tr hB0 hE3)
      have he : errOf s l = 2 := by unfold errOf; rw [if_neg (by omega), if_pos hs]
      exact ⟨_, by rw [he], fun h => absurd h (by rw [he]; decide), hB⟩
    · refine CW.skip ?_
      refine QW.then_ ?_
      refine CW.seq ?_
      refine CW.seq ?_
      have hs : Okay s := Decidable.not_not.1 (by assumption)
      obtain ⟨a1, a2, a3, a4, a5, a6, a7, a8, a9, a10, a11⟩ := id hs
      refine CW.region ?_
      refine RG.vl rfl rfl rfl (Ev.move rfl rfl) ?_
      refine RG.vl rfl rfl rfl (Ev.lenL rfl rfl rfl Try.underlying24 ((hl.ext hE3))) ?_
      refine RG.vl rfl rfl rfl (Ev.move rfl rfl) ?_
      refine RG.done ?_
      refine QW.then_ ?_
      refine CW.block ?_
      replace hl := (hl.ext hE3)
      replace hb1 := (hb1.ext hE6)
      have hR8 := (Ex.tr hB0 hE3)
      have hR9 := hE6
      refine CW.loop1 [(1, _), (2, _), (21, _), (22, _)] ⟨rfl, rfl, rfl, rfl, trivial⟩ (fun (i : Nat) => [(23, .int .i64 i)]) (fun i w' => (i ≤ l.length ∧ ∀ j b, j < i → l[j]? = some b → InB b) ∧ Ex w5 w') (fun i => l.length - i) (0) ⟨rfl, trivial⟩ ⟨⟨Nat.zero_le _, fun j b h => absurd h (by omega)⟩, (Ex.rfl_ _)⟩ ?_
      rintro i wl10 ⟨⟨hi, hall⟩, hxwl10⟩
      refine CW.sub (S' := [(23, _), (1, _), (2, _), (21, _), (22, _)]) ⟨rfl, rfl, rfl, rfl, rfl, trivial⟩ ?_
      refine CW.seq ?_
      refine CW.region ?_
      refine RG.vl rfl rfl rfl (Ev.lss rfl rfl rfl) ?_
      refine RG.done ?_
      refine QW.then_ ?_
      refine CW.seq ?_
      refine CW.condP rfl (fun hc11 => ?_) (fun hc11 => ?_)
      · refine CW.skip ?_
        refine QW.then_ ?_
        refine CW.seq ?_
        refine CW.block ?_
        refine CW.seq ?_
        obtain ⟨b, hk⟩ : ∃ b, l[i]? = some b := ⟨l[i]'(by omega), List.getElem?_eq_getElem _⟩
        
        refine CW.region ?_
        refine RG.idxL rfl rfl rfl rfl rfl rfl Try.underlying24 sz_48 ((hl.ext hxwl10)) (hk) (fun p12 hp12b hp12 => ?_)
        refine RG.vl rfl rfl rfl (Ev.ldAgg rfl rfl Try.underlying48 rfl sz_48 rfl (hp12)) ?_
        refine RG.local_ rfl rfl rfl rfl (fun _ => rfl) rfl rfl (fun _ => rfl) inf_48 rfl rfl rfl (fun g13 w13 eg13 hx13 hb13 => ?_)
        have hle14 : w5.heap.size ≤ g13 := by have := hxwl10.size; omega
        have hle15 : wl10.heap.size ≤ g13 := by have := (Ex.rfl_ wl10).size; omega
        have hlt16 : g1 < g13 := by have := Blk.lt (hb1.ext hxwl10); omega
        replace hxwl10 := Ex.tr hxwl10 hx13
        have hE17 := hx13
        refine RG.done ?_
        refine QW.then_ ?_
        refine CW.seq ?_
        refine CW.region ?_
        refine RG.vl rfl rfl rfl (Ev.fld rfl rfl fld_48_0) ?_
        refine RG.vl rfl rfl rfl (Ev.ldAt rfl rfl Try.underlying3 rfl (hb13.cells) (rfl)) ?_
        refine RG.call rfl rfl rfl rfl rfl rfl rfl en_36 (within_ret _ _ _) ?_
        rintro _ w18 ⟨rfl, hx18⟩
        replace hxwl10 := Ex.tr hxwl10 hx18
        replace hE17 := Ex.tr hE17 hx18
        have hE19 := hx18
        refine RG.vl rfl rfl rfl (Ev.notP rfl rfl) ?_
        refine RG.vl rfl rfl rfl (Ev.move rfl rfl) ?_
        refine RG.split (d := 31) rfl (fun hg20 => ?_) (fun hg20 => ?_)
        · refine RG.pass rfl rfl rfl ?_
          refine RG.pass rfl rfl rfl ?_
          refine RG.pass rfl rfl rfl ?_
          refine RG.pass rfl rfl rfl ?_
          refine RG.vl rfl rfl rfl (Ev.pickT rfl rfl rfl) ?_
          refine RG.vl rfl rfl rfl (Ev.move rfl rfl) ?_
          refine RG.pass rfl rfl rfl ?_
          refine RG.pass rfl rfl rfl ?_
          refine RG.pass rfl rfl rfl ?_
          refine RG.pass rfl rfl rfl ?_
          refine RG.vl rfl rfl rfl (Ev.pickT rfl rfl rfl) ?_
          refine RG.done ?_
          refine QW.sub (S' := [(1, _), (2, _), (21, _), (22, _), (23, _), (42, _)]) ⟨rfl, rfl, rfl, rfl, rfl, rfl, trivial⟩ ?_
          refine QW.then_ ?_
          refine CW.condT rfl ?_
          refine CW.seq ?_
          refine CW.region ?_
          refine RG.vl rfl rfl rfl (Ev.assign rfl rfl) ?_
          refine RG.vl rfl rfl rfl (Ev.assign rfl rfl) ?_
          refine RG.done ?_
          refine QW.then_ ?_
          refine CW.ret ?_
          refine QW.blockR ?_
          refine QW.thenRet ?_
          refine QW.thenRet ?_
          refine QW.blockR ?_
          refine QW.thenRet ?_
          refine QW.ret2 rfl rfl rfl ?_
          have hB := (Ex.tr hR8 hxwl10)
          have he : errOf s l = 2 := by unfold errOf; rw [if_neg (by omega), if_neg (by simpa using hs), if_pos]; intro hh; have := hh b (List.mem_of_getElem? hk); unfold InB at this; omega
          exact ⟨_, by rw [he], fun h => absurd h (by rw [he]; decide), hB⟩
        · refine RG.vl rfl rfl rfl (Ev.fld rfl rfl fld_48_1) ?_
          refine RG.vl rfl rfl rfl (Ev.ldAt rfl rfl Try.underlying3 rfl ((hb13.ext hE19).cells) (rfl)) ?_
          refine RG.call rfl rfl rfl rfl rfl rfl rfl en_36 (within_ret _ _ _) ?_
          rintro _ w21 ⟨rfl, hx21⟩
          replace hxwl10 := Ex.tr hxwl10 hx21
          replace hE17 := Ex.tr hE17 hx21
          replace hE19 := Ex.tr hE19 hx21
          have hE22 := hx21
          refine RG.vl rfl rfl rfl (Ev.notP rfl rfl) ?_
          refine RG.vl rfl rfl rfl (Ev.pickF rfl rfl rfl) ?_
          refine RG.vl rfl rfl rfl (Ev.move rfl rfl) ?_
          refine RG.split (d := 37) rfl (fun hg23 => ?_) (fun hg23 => ?_)
          · refine RG.pass rfl rfl rfl ?_
            refine RG.pass rfl rfl rfl ?_
            refine RG.pass rfl rfl rfl ?_
            refine RG.pass rfl rfl rfl ?_
            refine RG.vl rfl rfl rfl (Ev.pickT rfl rfl rfl) ?_
            refine RG.done ?_
            refine QW.sub (S' := [(1, _), (2, _), (21, _), (22, _), (23, _), (42, _)]) ⟨rfl, rfl, rfl, rfl, rfl, rfl, trivial⟩ ?_
            refine QW.then_ ?_
            refine CW.condT rfl ?_
            refine CW.seq ?_
            refine CW.region ?_
            refine RG.vl rfl rfl rfl (Ev.assign rfl rfl) ?_
            refine RG.vl rfl rfl rfl (Ev.assign rfl rfl) ?_
            refine RG.done ?_
            refine QW.then_ ?_
            refine CW.ret ?_
            refine QW.blockR ?_
            refine QW.thenRet ?_
            refine QW.thenRet ?_
            refine QW.blockR ?_
            refine QW.thenRet ?_
            refine QW.ret2 rfl rfl rfl ?_
            have hB := (Ex.tr hR8 hxwl10)
            have he : errOf s l = 2 := by unfold errOf; rw [if_neg (by omega), if_neg (by simpa using hs), if_pos]; intro hh; have := hh b (List.mem_of_getElem? hk); unfold InB at this; omega
            exact ⟨_, by rw [he], fun h => absurd h (by rw [he]; decide), hB⟩
          · refine RG.vl rfl rfl rfl (Ev.fld rfl rfl fld_48_2) ?_
            refine RG.vl rfl rfl rfl (Ev.ldAt rfl rfl Try.underlying3 rfl ((hb13.ext hE19).cells) (rfl)) ?_
            refine RG.call rfl rfl rfl rfl rfl rfl rfl en_36 (within_ret _ _ _) ?_
            rintro _ w24 ⟨rfl, hx24⟩
            replace hxwl10 := Ex.tr hxwl10 hx24
            replace hE17 := Ex.tr hE17 hx24
            replace hE19 := Ex.tr hE19 hx24
            replace hE22 := Ex.tr hE22 hx24
            have hE25 := hx24
            refine RG.vl rfl rfl rfl (Ev.notP rfl rfl) ?_
            refine RG.vl rfl rfl rfl (Ev.pickF rfl rfl rfl) ?_
            refine RG.done ?_
            refine QW.sub (S' := [(1, _), (2, _), (21, _), (22, _), (23, _), (42, _)]) ⟨rfl, rfl, rfl, rfl, rfl, rfl, trivial⟩ ?_
            refine QW.then_ ?_
            refine CW.condP rfl (fun hc26 => ?_) (fun hc26 => ?_)
            · refine CW.seq ?_
              refine CW.region ?_
              refine RG.vl rfl rfl rfl (Ev.assign rfl rfl) ?_
              refine RG.vl rfl rfl rfl (Ev.assign rfl rfl) ?_
              refine RG.done ?_
              refine QW.then_ ?_
              refine CW.ret ?_
              refine QW.blockR ?_
              refine QW.thenRet ?_
              refine QW.thenRet ?_
              refine QW.blockR ?_
              refine QW.thenRet ?_
              refine QW.ret2 rfl rfl rfl ?_
              have hB := (Ex.tr hR8 hxwl10)
              have he : errOf s l = 2 := by unfold errOf; rw [if_neg (by omega), if_neg (by simpa using hs), if_pos]; intro hh; have := hh b (List.mem_of_getElem? hk); unfold InB at this; omega
              exact ⟨_, by rw [he], fun h => absurd h (by rw [he]; decide), hB⟩
            · refine CW.skip ?_
              refine QW.blockN ?_
              refine QW.then_ ?_
              refine CW.region ?_
              refine RG.vl rfl rfl rfl (Ev.addI rfl rfl rfl (by omega)) ?_
              refine RG.vl rfl rfl rfl (Ev.move rfl rfl) ?_
              refine RG.done ?_
              refine QW.round1 (i + 1) ⟨rfl, trivial⟩ ⟨rfl, rfl, rfl, rfl, trivial⟩ ⟨⟨by omega, fun j b' hj hb' => by rcases Nat.lt_or_ge j i with h | h; exact hall j b' h hb'; obtain rfl : j = i := (by omega); rw [hk] at hb'; injection hb' with hb'; subst hb'; unfold InB; omega⟩, hxwl10⟩ (by omega)
      · refine CW.exit ?_
        refine QW.thenExit ?_
        refine QW.thenExit ?_
        refine QW.blockHit ?_
        refine QW.then_ ?_
        refine CW.seq ?_
        have hB9 : Ex w wl10 := (Ex.tr hR8 hxwl10)
        have hin : ∀ b ∈ l, InB b := fun b hb => by obtain ⟨j, hj, rfl⟩ := List.getElem_of_mem hb; exact hall j _ (by omega) (List.getElem?_eq_getElem _)
        refine CW.region ?_
        replace hl := (hl.ext hxwl10)
        replace hb1 := (hb1.ext hxwl10)
        have hR27 := (Ex.tr hR8 hxwl10)
        have hR28 := (Ex.tr hR9 hxwl10)
        have hR29 := hxwl10
        refine RG.mkMap (fun i : Int => Value.int .i64 i) rfl rfl rfl rfl (fun gm w30 egm hx30 hb30 => ?_)
        have hle31 : wl10.heap.size ≤ gm := by have := (Ex.rfl_ wl10).size; omega
        have hlt32 : g1 < gm := by have := Blk.lt hb1; omega
        have hE33 := hx30
        refine RG.vl rfl rfl rfl (Ev.assign rfl rfl) ?_
        refine RG.done ?_
        refine QW.then_ ?_
        refine CW.seq ?_
        refine CW.seq ?_
        refine CW.region ?_
        refine RG.vl rfl rfl rfl (Ev.move rfl rfl) ?_
        refine RG.vl rfl rfl rfl (Ev.lenL rfl rfl rfl Try.underlying24 ((hl.ext hE33))) ?_
        refine RG.vl rfl rfl rfl (Ev.move rfl rfl) ?_
        refine RG.done ?_
        refine QW.then_ ?_
        refine CW.block ?_
        refine CW.loop1 [(2, _), (8, _), (45, _), (46, _)] ⟨rfl, rfl, rfl, rfl, trivial⟩ (fun (i : Nat) => [(47, .int .i64 i)]) (fun i w' => (i ≤ l.length ∧ Fit s (l.take i) ∧ Mp w' gm (fun i : Int => Value.int .i64 i) (foundOf s (l.take i))) ∧ Ex wl10 w') (fun i => l.length - i) (0) ⟨rfl, trivial⟩ ⟨⟨Nat.zero_le _, fit_nil s, hb30⟩, hE33⟩ ?_
        rintro i wl34 ⟨⟨hi, hfit, hmp⟩, hxwl34⟩
        refine CW.sub (S' := [(47, _), (2, _), (8, _), (45, _), (46, _)]) ⟨rfl, rfl, rfl, rfl, rfl, trivial⟩ ?_
        refine CW.seq ?_
        refine CW.region ?_
        refine RG.vl rfl rfl rfl (Ev.lss rfl rfl rfl) ?_
        refine RG.done ?_
        refine QW.then_ ?_
        refine CW.seq ?_
        refine CW.condP rfl (fun hc35 => ?_) (fun hc35 => ?_)
        · refine CW.skip ?_
          refine QW.then_ ?_
          refine CW.seq ?_
          refine CW.block ?_
          refine CW.seq ?_
          obtain ⟨b, hk⟩ : ∃ b, l[i]? = some b := ⟨l[i]'(by omega), List.getElem?_eq_getElem _⟩
          
          refine CW.region ?_
          refine RG.idxL rfl rfl rfl rfl rfl rfl Try.underlying24 sz_48 ((hl.ext hxwl34)) (hk) (fun p36 hp36b hp36 => ?_)
          refine RG.vl rfl rfl rfl (Ev.ldAgg rfl rfl Try.underlying48 rfl sz_48 rfl (hp36)) ?_
          refine RG.local_ rfl rfl rfl rfl (fun _ => rfl) rfl rfl (fun _ => rfl) inf_48 rfl rfl rfl (fun g37 w37 eg37 hx37 hb37 => ?_)
          have hle38 : wl10.heap.size ≤ g37 := by have := hxwl34.size; omega
          have hle39 : wl34.heap.size ≤ g37 := by have := (Ex.rfl_ wl34).size; omega
          have hlt40 : g1 < g37 := by have := Blk.lt (hb1.ext hxwl34); omega
          have hlt41 : gm < g37 := by have := Mp.lt hmp; omega
          replace hxwl34 := Ex.tr hxwl34 hx37
          have hE42 := hx37
          refine RG.done ?_
          refine QW.then_ ?_
          refine CW.seq ?_
          have hib := hin b (List.mem_of_getElem? hk)
          obtain ⟨b1, b2, b3, b4, b5, b6⟩ := id hib
          refine CW.region ?_
          refine RG.vl rfl rfl rfl (Ev.fld rfl rfl fld_48_0) ?_
          refine RG.vl rfl rfl rfl (Ev.ldAt rfl rfl Try.underlying3 rfl (hb37.cells) (rfl)) ?_
          refine RG.vl rfl rfl rfl (Ev.fld rfl rfl fld_23_1) ?_
          refine RG.vl rfl rfl rfl (Ev.ldAt rfl rfl Try.underlying3 rfl ((hb1.ext hxwl34).cells) (rfl)) ?_
          refine RG.vl rfl rfl rfl (Ev.subI rfl rfl rfl (by omega)) ?_
          refine RG.vl rfl rfl rfl (Ev.fld rfl rfl fld_23_3) ?_
          refine RG.vl rfl rfl rfl (Ev.ldAt rfl rfl Try.underlying3 rfl ((hb1.ext hxwl34).cells) (rfl)) ?_
          refine RG.vl rfl rfl rfl (Ev.addI rfl rfl rfl (by omega)) ?_
          refine RG.vl rfl rfl rfl (Ev.assign rfl rfl) ?_
          refine RG.done ?_
          refine QW.then_ ?_
          refine CW.seq ?_
          refine CW.seq ?_
          refine CW.draw [] (.ex) 12 rfl mixed (fun wd43 hxwd43 => ?_)
          replace hxwl34 := Ex.tr hxwl34 hxwd43
          replace hE42 := Ex.tr hE42 hxwd43
          have hE44 := hxwd43
          refine AG.takeW 0 rfl (by kernel_rfl) (by kernel_rfl) rfl rfl rfl (fun _ => Ev.move rfl rfl) ?_
          refine AG.takeW 1 rfl (by kernel_rfl) (by kernel_rfl) rfl rfl rfl (fun _ => Ev.lss rfl rfl rfl) ?_
          refine AG.takeW 2 rfl (by kernel_rfl) (by kernel_rfl) rfl rfl rfl (fun _ => Ev.move rfl rfl) ?_
          refine AG.split (d := 61) rfl (fun hg45 => ?_) (fun hg45 => ?_)
          · refine AG.pass 3 rfl (by kernel_rfl) (by kernel_rfl) rfl rfl rfl ?_
            refine AG.pass 4 rfl (by kernel_rfl) (by kernel_rfl) rfl rfl rfl ?_
            refine AG.pass 5 rfl (by kernel_rfl) (by kernel_rfl) rfl rfl rfl ?_
            refine AG.pass 6 rfl (by kernel_rfl) (by kernel_rfl) rfl rfl rfl ?_
            refine AG.pass 7 rfl (by kernel_rfl) (by kernel_rfl) rfl rfl rfl ?_
            refine AG.pass 8 rfl (by kernel_rfl) (by kernel_rfl) rfl rfl rfl ?_
            refine AG.pass 9 rfl (by kernel_rfl) (by kernel_rfl) rfl rfl rfl ?_
            refine AG.pass 10 rfl (by kernel_rfl) (by kernel_rfl) rfl rfl rfl ?_
            refine AG.takeW 11 rfl (by kernel_rfl) (by kernel_rfl) rfl rfl rfl (fun _ => Ev.pickT rfl rfl rfl) ?_
            refine AG.done (by kernel_rfl) ?_
            refine QW.sub (S' := [(2, _), (8, _), (10, _), (11, _), (45, _), (46, _), (47, _), (70, _)]) ⟨rfl, rfl, rfl, rfl, rfl, rfl, rfl, rfl, trivial⟩ ?_
            refine QW.then_ ?_
            refine CW.condT rfl ?_
            refine CW.seq ?_
            refine CW.region ?_
            refine RG.vl rfl rfl rfl (Ev.assign rfl rfl) ?_
            refine RG.vl rfl rfl rfl (Ev.assign rfl rfl) ?_
            refine RG.done ?_
            refine QW.then_ ?_
            refine CW.ret ?_
            refine QW.thenRet ?_
            refine QW.blockR ?_
            refine QW.thenRet ?_
            refine QW.thenRet ?_
            refine QW.blockR ?_
            refine QW.thenRet ?_
            refine QW.ret2 rfl rfl rfl ?_
            have hB := (Ex.tr hR27 hxwl34)
            have he : errOf s l = 210 := by unfold errOf; rw [if_neg (by omega), if_neg (by simpa using hs), if_neg (by simpa using hin), if_neg]; exact not_fit0 s l i b hk (plc_bad s b (by omega))
            exact ⟨_, by rw [he], fun h => absurd h (by rw [he]; decide), hB⟩
          · refine AG.takeW 3 rfl (by kernel_rfl) (by kernel_rfl) rfl rfl rfl (fun _ => Ev.move rfl rfl) ?_
            refine AG.takeW 4 rfl (by kernel_rfl) (by kernel_rfl) rfl rfl rfl (fun _ => Ev.fld rfl rfl fld_23_2) ?_
            refine AG.take 5 rfl (by kernel_rfl) (by kernel_rfl) rfl rfl rfl (fun wq hq => Ev.ldAt rfl rfl Try.underlying3 rfl (((hb1.ext hxwl34).ext hq).cells) (rfl)) ?_
            refine AG.takeW 6 rfl (by kernel_rfl) (by kernel_rfl) rfl rfl rfl (fun _ => Ev.remI rfl rfl rfl (by omega)) ?_
            refine AG.takeW 7 rfl (by kernel_rfl) (by kernel_rfl) rfl rfl rfl (fun _ => Ev.fld rfl rfl fld_23_3) ?_
            refine AG.take 8 rfl (by kernel_rfl) (by kernel_rfl) rfl rfl rfl (fun wq hq => Ev.ldAt rfl rfl Try.underlying3 rfl (((hb1.ext hxwl34).ext hq).cells) (rfl)) ?_
            refine AG.takeW 9 rfl (by kernel_rfl) (by kernel_rfl) rfl rfl rfl (fun _ => Ev.mulI rfl rfl rfl (by omega)) ?_
            refine AG.takeW 10 rfl (by kernel_rfl) (by kernel_rfl) rfl rfl rfl (fun _ => Ev.gtr rfl rfl rfl) ?_
            refine AG.takeW 11 rfl (by kernel_rfl) (by kernel_rfl) rfl rfl rfl (fun _ => Ev.pickF rfl rfl rfl) ?_
            refine AG.done (by kernel_rfl) ?_
            refine QW.sub (S' := [(2, _), (8, _), (10, _), (11, _), (45, _), (46, _), (47, _), (70, _)]) ⟨rfl, rfl, rfl, rfl, rfl, rfl, rfl, rfl, trivial⟩ ?_
            refine QW.then_ ?_
            refine CW.condP rfl (fun hc46 => ?_) (fun hc46 => ?_)
            · refine CW.seq ?_
              refine CW.region ?_
              refine RG.vl rfl rfl rfl (Ev.assign rfl rfl) ?_
              refine RG.vl rfl rfl rfl (Ev.assign rfl rfl) ?_
              refine RG.done ?_
              refine QW.then_ ?_
              refine CW.ret ?_
              refine QW.thenRet ?_
              refine QW.blockR ?_
              refine QW.thenRet ?_
              refine QW.thenRet ?_
              refine QW.blockR ?_
              refine QW.thenRet ?_
              refine QW.ret2 rfl rfl rfl ?_
              have hB := (Ex.tr hR27 hxwl34)
              have he : errOf s l = 210 := by unfold errOf; rw [if_neg (by omega), if_neg (by simpa using hs), if_neg (by simpa using hin), if_neg]; exact not_fit0 s l i b hk (plc_bad s b (by omega))
              exact ⟨_, by rw [he], fun h => absurd h (by rw [he]; decide), hB⟩
            · refine CW.skip ?_
              refine QW.then_ ?_
              refine CW.seq ?_
              refine CW.region ?_
              refine RG.vl rfl rfl rfl (Ev.move rfl rfl) ?_
              refine RG.vl rfl rfl rfl (Ev.fld rfl rfl fld_23_2) ?_
              refine RG.vl rfl rfl rfl (Ev.ldAt rfl rfl Try.underlying3 rfl ((hb1.ext hxwl34).cells) (rfl)) ?_
              refine RG.vl rfl rfl rfl (Ev.quoI rfl rfl rfl (by omega)) ?_
              refine RG.vl rfl rfl rfl (Ev.assign rfl rfl) ?_
              refine RG.done ?_
              refine QW.then_ ?_
              refine CW.seq ?_
              refine CW.seq ?_
              refine CW.region ?_
              refine RG.vl rfl rfl rfl (Ev.move rfl rfl) ?_
              refine RG.vl rfl rfl rfl (Ev.move rfl rfl) ?_
              refine RG.vl rfl rfl rfl ((Ev.lookOk keyI rfl rfl rfl (hmp.ext hE42) Try.underlying67 Try.underlying3 inf_48).conv (found_look s (l.take i) _ hfit.1)) ?_
              refine RG.vl rfl rfl rfl (Ev.move rfl rfl) ?_
              refine RG.vl rfl rfl rfl (Ev.extract rfl rfl rfl) ?_
              refine RG.vl rfl rfl rfl (Ev.extract rfl rfl rfl) ?_
              refine RG.local_ rfl rfl rfl rfl (fun _ => rfl) rfl rfl (fun _ => rfl) inf_48 rfl rfl rfl (fun g47 w47 eg47 hx47 hb47 => ?_)
              have hle48 : wl10.heap.size ≤ g47 := by have := hxwl34.size; omega
              have hle49 : wl34.heap.size ≤ g47 := by have := hE42.size; omega
              have hle50 : w37.heap.size ≤ g47 := by have := hE44.size; omega
              have hle51 : wd43.heap.size ≤ g47 := by have := (Ex.rfl_ wd43).size; omega
              have hlt52 : g1 < g47 := by have := Blk.lt (hb1.ext hxwl34); omega
              have hlt53 : gm < g47 := by have := Mp.lt (hmp.ext hE42); omega
              have hlt54 : g37 < g47 := by have := Blk.lt (hb37.ext hE44); omega
              replace hxwl34 := Ex.tr hxwl34 hx47
              replace hE42 := Ex.tr hE42 hx47
              replace hE44 := Ex.tr hE44 hx47
              refine RG.vl rfl rfl rfl (Ev.assign rfl rfl) ?_
              refine RG.done ?_
              refine QW.then_ ?_
              refine CW.seq ?_
              refine CW.region ?_
              refine RG.vl rfl rfl rfl (Ev.move rfl rfl) ?_
              refine RG.vl rfl rfl rfl (Ev.move rfl rfl) ?_
              refine RG.splitB (d := 82) rfl (fun hg55 => ?_) (fun hg55 => ?_)
              · refine RG.pass rfl rfl rfl ?_
                refine RG.pass rfl rfl rfl ?_
                refine RG.pass rfl rfl rfl ?_
                refine RG.pass rfl rfl rfl ?_
                refine RG.vl rfl rfl rfl (Ev.pickT rfl rfl rfl) ?_
                refine RG.done ?_
                refine QW.sub (S' := [(2, _), (8, _), (10, _), (12, _), (45, _), (46, _), (47, _), (87, _)]) ⟨rfl, rfl, rfl, rfl, rfl, rfl, rfl, rfl, trivial⟩ ?_
                refine QW.then_ ?_
                refine CW.condT rfl ?_
                refine CW.seq ?_
                refine CW.region ?_
                refine RG.vl rfl rfl rfl (Ev.assign rfl rfl) ?_
                refine RG.vl rfl rfl rfl (Ev.assign rfl rfl) ?_
                refine RG.done ?_
                refine QW.then_ ?_
                refine CW.ret ?_
                refine QW.thenRet ?_
                refine QW.blockR ?_
                refine QW.thenRet ?_
                refine QW.thenRet ?_
                refine QW.blockR ?_
                refine QW.thenRet ?_
                refine QW.ret2 rfl rfl rfl ?_
                have hB := (Ex.tr hR27 hxwl34)
                have he : errOf s l = 210 := by unfold errOf; rw [if_neg (by omega), if_neg (by simpa using hs), if_neg (by simpa using hin), if_neg]; obtain ⟨j, b2, hj, hb2, he2⟩ := found_hit s l i _ hfit.1 (by rw [fbo_iff s _ _ hfit.1]; assumption); exact not_fit s l i j b b2 hk hb2 hj (by rw [he2]; exact plc_good s b (by omega) (by omega) (fun hfar => absurd ((plc_range s b2 _ hs he2).2) (by omega)))
                exact ⟨_, by rw [he], fun h => absurd h (by rw [he]; decide), hB⟩
              · refine RG.vl rfl rfl rfl (Ev.move rfl rfl) ?_
                refine RG.vl rfl rfl rfl (Ev.fld rfl rfl fld_23_0) ?_
                refine RG.vl rfl rfl rfl (Ev.ldAt rfl rfl Try.underlying3 rfl ((hb1.ext hxwl34).cells) (rfl)) ?_
                refine RG.vl rfl rfl rfl (Ev.geq rfl rfl rfl) ?_
                refine RG.vl rfl rfl rfl (Ev.pickF rfl rfl rfl) ?_
                refine RG.done ?_
                refine QW.sub (S' := [(2, _), (8, _), (10, _), (12, _), (45, _), (46, _), (47, _), (87, _)]) ⟨rfl, rfl, rfl, rfl, rfl, rfl, rfl, rfl, trivial⟩ ?_
                refine QW.then_ ?_
                refine CW.condP rfl (fun hc56 => ?_) (fun hc56 => ?_)
                · refine CW.seq ?_
                  refine CW.region ?_
                  refine RG.vl rfl rfl rfl (Ev.assign rfl rfl) ?_
                  refine RG.vl rfl rfl rfl (Ev.assign rfl rfl) ?_
                  refine RG.done ?_
                  refine QW.then_ ?_
                  refine CW.ret ?_
                  refine QW.thenRet ?_
                  refine QW.blockR ?_
                  refine QW.thenRet ?_
                  refine QW.thenRet ?_
                  refine QW.blockR ?_
                  refine QW.thenRet ?_
                  refine QW.ret2 rfl rfl rfl ?_
                  have hB := (Ex.tr hR27 hxwl34)
                  have he : errOf s l = 210 := by unfold errOf; rw [if_neg (by omega), if_neg (by simpa using hs), if_neg (by simpa using hin), if_neg]; exact not_fit0 s l i b hk (plc_far s b (by omega))
                  exact ⟨_, by rw [he], fun h => absurd h (by rw [he]; decide), hB⟩
                · refine CW.skip ?_
                  refine QW.then_ ?_
                  obtain ⟨hno, hne⟩ := found_miss s l i _ hfit.1 (by rw [fbo_iff s _ _ hfit.1]; assumption)
                  have hpg := plc_good s b (by omega) (by omega) (by omega)
                  refine CW.region ?_
                  refine RG.vl rfl rfl rfl (Ev.move rfl rfl) ?_
                  refine RG.vl rfl rfl rfl (Ev.move rfl rfl) ?_
                  refine RG.vl rfl rfl rfl (Ev.ldAgg rfl rfl Try.underlying48 rfl sz_48 rfl ((hb37.ext hE44).cells)) ?_
                  refine RG.mapPut keyI rfl rfl (.inl rfl) rfl rfl rfl Try.underlying67 Try.underlying3 (hmp.ext hE42) (hno) (fun wm57 hwm57 hbwm57 => ?_)
                  replace hb37 := Blk.far (hb37.ext hE44) hwm57 (by omega)
                  replace hb47 := Blk.far hb47 hwm57 (by omega)
                  replace hxwl34 := Wr.below hxwl34 hwm57 hle31
                  refine RG.done ?_
                  refine QW.blockN ?_
                  refine QW.then_ ?_
                  refine CW.region ?_
                  refine RG.vl rfl rfl rfl (Ev.addI rfl rfl rfl (by omega)) ?_
                  refine RG.vl rfl rfl rfl (Ev.move rfl rfl) ?_
                  refine RG.done ?_
                  refine QW.round1 (i + 1) ⟨rfl, trivial⟩ ⟨rfl, rfl, rfl, rfl, trivial⟩ ⟨⟨by omega, by rw [take_snoc l i b hk, fit_snoc]; exact ⟨hfit, by rw [hpg]; rfl, fun b' hb' => by rw [hpg]; exact hne b' hb'⟩, by rw [found_snoc s l i b _ hk hpg]; exact hbwm57⟩, hxwl34⟩ (by omega)
        · refine CW.exit ?_
          refine QW.thenExit ?_
          refine QW.thenExit ?_
          refine QW.blockHit ?_
          refine QW.then_ ?_
          refine CW.seq ?_
          refine CW.region ?_
          refine RG.vl rfl rfl rfl (Ev.move rfl rfl) ?_
          refine RG.vl rfl rfl rfl (Ev.assign rfl rfl) ?_
          refine RG.vl rfl rfl rfl (Ev.assign rfl rfl) ?_
          refine RG.done ?_
          refine QW.then_ ?_
          refine CW.ret ?_
          refine QW.ret2 rfl rfl rfl ?_
          have hB := (Ex.tr hR27 hxwl34)
          have hi2 : l.take i = l := List.take_of_length_le (by omega)
          rw [hi2] at hfit hmp
          have he : errOf s l = 0 := (err0_iff s l).2 ⟨by omega, hs, hin, hfit⟩
          exact ⟨_, by rw [he], fun _ => ⟨gm, rfl, by have := hB9.size; omega, hmp⟩, hB⟩

end Go.Proofs.Ytnecppiamecemaa
