/- Walks (SN). Written by program. -/
import Derived.Test.YtjhgihgggofocaaT
import Derived.Test.YtjhgihgggofocaaSM
import Derived.Test.YtjhgihgggofocaaLV
namespace Go.Proofs.Ytjhgihgggofocaa
open Go.RowKit
theorem iter_told (k n : Nat) (A : Option Addr) (c : Nat) (er : List Nat) (w : World) {gE gN gG : Nat} (hE : Blk w gE 23 [.slice A er.length c]) (hN : Blk w gN 3 [.int .i64 (n : Int)]) (hG : Blk w gG 56 (goneC er)) (hl : RdL w 1 encZ (.slice A er.length c) er) (her : er.length ≤ 4) (hn : n ≤ 63) :
    SeqTold k Try.prog 53 #[.pointer (some ⟨gE, 0, none⟩), .pointer (some ⟨gN, 0, none⟩), .pointer (some ⟨gG, 0, none⟩)] (fun x : El2 => #[x.1]) (fun pre x A => RdL A 1 encZ x.1 x.2 ∧ (pre ++ [x]).map Prod.snd <+: candL n er) (fun xs => xs.map Prod.snd = candL n er) w := fun l J Jx W hW _ hc hY h0 => by
  refine callsIn_wide.2 (Calls.mono (iter_ret k w l gE gN gG n A c er J Jx W hW hE hN hG hl her hn hc hY h0) ?_)
  rintro e B ⟨v, rfl, h⟩
  exact ⟨⟨v, rfl⟩, h⟩

set_option maxRecDepth 100000 in
set_option maxHeartbeats 4000000 in
theorem decode_ret (u v0 : Value) (l : List Nat) (ei : List Int) (w : World) (hl : RdL w 1 encN u l) (he : RdL w 1 encI v0 ei) (hlen : l.length ≤ 100000) (hlen2 : ei.length ≤ 100000) :
    Ret Try.prog 13 [u, v0] w (fun v w' => ∃ r x c es e, v = .tuple #[.agg ([r, x] : List Value).toArray, .int .i64 e] ∧ Own w' w.heap.size 5 1 encN r c ∧ Own w' w.heap.size 3 1 encZ x es ∧ DecP l ei e c es ∧ Ex w w') := by
  obtain ⟨uA, uC, rfl⟩ := hl.shape
  obtain ⟨eA, eC, rfl⟩ := he.shape
  have hB0 : Ex w w := Ex.rfl_ _
  refine Ret.ofM 6 Try.func13 rfl Try.ntmps13 rfl (CWI.ofCW ?_)
  refine CW.seq ?_
  refine CW.region ?_
  refine RG.box rfl rfl rfl rfl rfl (fun gW w1 egW hx1 hb1 => ?_)
  have hle2 : w.heap.size ≤ gW := by have := (Ex.rfl_ w).size; omega
  have hE3 := hx1
  refine RG.alloc_ rfl rfl rfl rfl inf_28 (fun gX w4 egX hx4 hb4 => ?_)
  have hle5 : w.heap.size ≤ gX := by have := hE3.size; omega
  have hle6 : w1.heap.size ≤ gX := by have := (Ex.rfl_ w1).size; omega
  have hlt7 : gW < gX := by have := Blk.lt hb1; omega
  replace hE3 := Ex.tr hE3 hx4
  have hE8 := hx4
  refine RG.alloc_ rfl rfl rfl rfl inf_29 (fun gY w9 egY hx9 hb9 => ?_)
  have hle10 : w.heap.size ≤ gY := by have := hE3.size; omega
  have hle11 : w1.heap.size ≤ gY := by have := hE8.size; omega
  have hle12 : w4.heap.size ≤ gY := by have := (Ex.rfl_ w4).size; omega
  have hlt13 : gW < gY := by have := Blk.lt (hb1.ext hE8); omega
  have hlt14 : gX < gY := by have := Blk.lt hb4; omega
  replace hE3 := Ex.tr hE3 hx9
  replace hE8 := Ex.tr hE8 hx9
  have hE15 := hx9
  refine RG.done ?_
  refine QW.then_ ?_
  refine CW.scope ?_
  refine CW.seq ?_
  refine CW.seq ?_
  refine CW.region ?_
  refine RG.vl rfl rfl rfl (Ev.ld0 rfl rfl Try.underlying22 rfl ((hb1.ext hE8).cells) (rfl)) ?_
  refine RG.call rfl rfl rfl rfl rfl rfl rfl en_34 (isW_ret _ l _ ((hl.ext hE3)) hlen) ?_
  rintro _ w16 ⟨rfl, hx16⟩
  replace hE3 := Ex.tr hE3 hx16
  replace hE8 := Ex.tr hE8 hx16
  replace hE15 := Ex.tr hE15 hx16
  have hE17 := hx16
  refine RG.vl rfl rfl rfl (Ev.not rfl rfl) ?_
  refine RG.done ?_
  refine QW.then_ ?_
  refine CW.cond rfl (fun hc18 => ?_) (fun hc18 => ?_)
  · refine CW.seq ?_
    refine CW.region ?_
    refine RG.vl rfl rfl rfl (Ev.build1 rfl rfl rfl inf_28 rfl rfl (by kernel_rfl) rfl) ?_
    refine RG.stAll (g := gX) rfl rfl rfl rfl rfl sz_28 rfl rfl rfl (hb4.ext hE15) (fun ws19 hwws19 hbws19 => ?_)
    replace hb9 := Blk.far (hb9.ext hE17) hwws19 (by omega)
    replace hE3 := Wr.below hE3 hwws19 hle5
    replace hE8 := Wr.below hE8 hwws19 hle6
    refine RG.st (g := gY) (k := 0) rfl rfl rfl rfl rfl sz_29 rfl hb9 rfl (fun ws20 hwws20 hbws20 => ?_)
    replace hbws19 := Blk.far hbws19 hwws20 (by omega)
    replace hE3 := Wr.below hE3 hwws20 hle10
    replace hE8 := Wr.below hE8 hwws20 hle11
    refine RG.done ?_
    refine QW.then_ ?_
    refine CW.ret ?_
    refine QW.thenRet ?_
    refine QW.noGotoR ?_
    refine retBox rfl rfl rfl Try.underlying28 rfl sz_28 rfl (us := [.slice none 0 0, .slice none 0 0]) hbws19 Try.underlying29 rfl (x := .int .i64 2) hbws20 ?_
    have hB := (Ex.tr hB0 hE3)
    exact ⟨_, _, [], [], 2, rfl, Own.nil_ _ _ _ _ _, Own.nil_ _ _ _ _ _, .inl ⟨.inl (by simpa using (by assumption : (!isW l) = true)), rfl, rfl, rfl⟩, hB⟩
  · refine CW.skip ?_
    refine QW.then_ ?_
    refine CW.seq ?_
    have hyes : isW l = true := by simpa using (by assumption : (!isW l) = false)
    obtain ⟨hw1, hw2, hel⟩ := isW_iff.1 hyes
    have hsyl : El (syL l) := El.cons_ (sy_lt hel 0) (El.cons_ (sy_lt hel 1) (El.cons_ (sy_lt hel 2) (el1 (sy_lt hel 3))))
    refine CW.region ?_
    refine RG.alloc_ rfl rfl rfl rfl inf_56 (fun gG w21 egG hx21 hb21 => ?_)
    have hle22 : w.heap.size ≤ gG := by have := hE3.size; omega
    have hle23 : w1.heap.size ≤ gG := by have := hE8.size; omega
    have hle24 : w4.heap.size ≤ gG := by have := hE15.size; omega
    have hle25 : w9.heap.size ≤ gG := by have := hE17.size; omega
    have hle26 : w16.heap.size ≤ gG := by have := (Ex.rfl_ w16).size; omega
    have hlt27 : gW < gG := by have := Blk.lt (hb1.ext hE8); omega
    have hlt28 : gX < gG := by have := Blk.lt (hb4.ext hE15); omega
    have hlt29 : gY < gG := by have := Blk.lt (hb9.ext hE17); omega
    replace hE3 := Ex.tr hE3 hx21
    replace hE8 := Ex.tr hE8 hx21
    replace hE15 := Ex.tr hE15 hx21
    replace hE17 := Ex.tr hE17 hx21
    refine RG.done ?_
    refine QW.then_ ?_
    refine CW.seq ?_
    refine CW.seq ?_
    refine CW.region ?_
    refine RG.vl rfl rfl rfl (Ev.move rfl rfl) ?_
    refine RG.vl rfl rfl rfl (Ev.lenL rfl rfl rfl Try.underlying23 ((he.ext hE3))) ?_
    refine RG.vl rfl rfl rfl (Ev.move rfl rfl) ?_
    refine RG.done ?_
    refine QW.then_ ?_
    refine CW.block ?_
    refine CW.loop1 [(1, _), (2, _), (4, _), (5, _), (6, _), (19, _), (20, _)] ⟨rfl, rfl, rfl, rfl, rfl, rfl, rfl, trivial⟩ (fun (i : Nat) => [(21, .int .i64 (i : Int))]) (fun i w' => (i ≤ ei.length ∧ (∀ a ∈ ei.take i, 0 ≤ a ∧ a < l.length) ∧ (ei.take i).Nodup ∧ Blk w' gG 56 (goneC (erN (ei.take i))) ∧ Blk w' gW 22 [.slice uA l.length uC] ∧ Blk w' gX 28 [.slice none 0 0, .slice none 0 0] ∧ Blk w' gY 29 [.int .i64 0]) ∧ Ex w w') (fun i => ei.length - i) (0) ⟨rfl, trivial⟩ ⟨⟨Nat.zero_le _, by simp, by simp, by rw [show erN (ei.take 0) = [] from rfl, ← goneC_nil]; exact hb21, (hb1.ext hE8), (hb4.ext hE15), (hb9.ext hE17)⟩, (Ex.tr hB0 hE3)⟩ ?_
    rintro i wl30 ⟨⟨hi, hall, hnd, hbG, hbW, hbX, hbY⟩, hxwl30⟩
    refine CW.sub (S' := [(21, _), (1, _), (2, _), (4, _), (5, _), (6, _), (19, _), (20, _)]) ⟨rfl, rfl, rfl, rfl, rfl, rfl, rfl, rfl, trivial⟩ ?_
    refine CW.seq ?_
    refine CW.region ?_
    refine RG.vl rfl rfl rfl (Ev.lss rfl rfl rfl) ?_
    refine RG.done ?_
    refine QW.then_ ?_
    refine CW.seq ?_
    refine CW.condP rfl (fun hc31 => ?_) (fun hc31 => ?_)
    · refine CW.skip ?_
      refine QW.then_ ?_
      refine CW.seq ?_
      refine CW.block ?_
      refine CW.seq ?_
      obtain ⟨a, hx⟩ : ∃ a, ei[i]? = some a := ⟨_, List.getElem?_eq_getElem (by omega)⟩
      refine CW.region ?_
      refine RG.idxL rfl rfl rfl rfl rfl rfl Try.underlying23 sz_3 ((he.ext hxwl30)) (hx) (fun p32 hp32b hp32 => ?_)
      refine RG.vl rfl rfl rfl (Ev.ld0 rfl rfl Try.underlying3 rfl (hp32) (rfl)) ?_
      refine RG.vl rfl rfl rfl (Ev.assign rfl rfl) ?_
      refine RG.done ?_
      refine QW.then_ ?_
      refine CW.seq ?_
      refine CW.seq ?_
      refine CW.region ?_
      refine RG.vl rfl rfl rfl (Ev.move rfl rfl) ?_
      refine RG.vl rfl rfl rfl (Ev.lss rfl rfl rfl) ?_
      refine RG.vl rfl rfl rfl (Ev.move rfl rfl) ?_
      refine RG.split (d := 27) rfl (fun hg33 => ?_) (fun hg33 => ?_)
      · refine RG.pass rfl rfl rfl ?_
        refine RG.pass rfl rfl rfl ?_
        refine RG.pass rfl rfl rfl ?_
        refine RG.pass rfl rfl rfl ?_
        refine RG.vl rfl rfl rfl (Ev.pickT rfl rfl rfl) ?_
        refine RG.vl rfl rfl rfl (Ev.move rfl rfl) ?_
        refine RG.pass rfl rfl rfl ?_
        refine RG.pass rfl rfl rfl ?_
        refine RG.pass rfl rfl rfl ?_
        refine RG.vl rfl rfl rfl (Ev.pickT rfl rfl rfl) ?_
        refine RG.done ?_
        refine QW.sub (S' := [(1, _), (2, _), (4, _), (5, _), (6, _), (8, _), (19, _), (20, _), (21, _), (37, _)]) ⟨rfl, rfl, rfl, rfl, rfl, rfl, rfl, rfl, rfl, rfl, trivial⟩ ?_
        refine QW.then_ ?_
        refine CW.condT rfl ?_
        refine CW.seq ?_
        refine CW.region ?_
        refine RG.vl rfl rfl rfl (Ev.build1 rfl rfl rfl inf_28 rfl rfl (by kernel_rfl) rfl) ?_
        refine RG.stAll (g := gX) rfl rfl rfl rfl rfl sz_28 rfl rfl rfl hbX (fun ws34 hwws34 hbws34 => ?_)
        replace hbG := Blk.far hbG hwws34 (by omega)
        replace hbW := Blk.far hbW hwws34 (by omega)
        replace hbY := Blk.far hbY hwws34 (by omega)
        replace hxwl30 := Wr.below hxwl30 hwws34 hle5
        refine RG.st (g := gY) (k := 0) rfl rfl rfl rfl rfl sz_29 rfl hbY rfl (fun ws35 hwws35 hbws35 => ?_)
        replace hbG := Blk.far hbG hwws35 (by omega)
        replace hbW := Blk.far hbW hwws35 (by omega)
        replace hbws34 := Blk.far hbws34 hwws35 (by omega)
        replace hxwl30 := Wr.below hxwl30 hwws35 hle10
        refine RG.done ?_
        refine QW.then_ ?_
        refine CW.ret ?_
        refine QW.thenRet ?_
        refine QW.blockR ?_
        refine QW.thenRet ?_
        refine QW.thenRet ?_
        refine QW.blockR ?_
        refine QW.thenRet ?_
        refine QW.noGotoR ?_
        refine retBox rfl rfl rfl Try.underlying28 rfl sz_28 rfl (us := [.slice none 0 0, .slice none 0 0]) hbws34 Try.underlying29 rfl (x := .int .i64 2) hbws35 ?_
        have hB := (Ex.tr hB0 hxwl30)
        have ham := List.mem_of_getElem? hx
        have hbad : ¬ okE l.length ei := fun h => by
          have h1 := h.1 a ham
          first | omega | exact dup_no hx (toNat_mem (fun y hy => (hall y hy).1) (by omega) (by assumption)) h.2
        exact ⟨_, _, [], [], 2, rfl, Own.nil_ _ _ _ _ _, Own.nil_ _ _ _ _ _, .inl ⟨.inr hbad, rfl, rfl, rfl⟩, hB⟩
      · refine RG.vl rfl rfl rfl (Ev.move rfl rfl) ?_
        refine RG.vl rfl rfl rfl (Ev.ld0 rfl rfl Try.underlying22 rfl (hbW.cells) (rfl)) ?_
        refine RG.vl rfl rfl rfl (Ev.lenL rfl rfl rfl Try.underlying22 ((hl.ext hxwl30))) ?_
        refine RG.vl rfl rfl rfl (Ev.geq rfl rfl rfl) ?_
        refine RG.vl rfl rfl rfl (Ev.pickF rfl rfl rfl) ?_
        refine RG.vl rfl rfl rfl (Ev.move rfl rfl) ?_
        refine RG.split (d := 33) rfl (fun hg36 => ?_) (fun hg36 => ?_)
        · refine RG.pass rfl rfl rfl ?_
          refine RG.pass rfl rfl rfl ?_
          refine RG.pass rfl rfl rfl ?_
          refine RG.vl rfl rfl rfl (Ev.pickT rfl rfl rfl) ?_
          refine RG.done ?_
          refine QW.sub (S' := [(1, _), (2, _), (4, _), (5, _), (6, _), (8, _), (19, _), (20, _), (21, _), (37, _)]) ⟨rfl, rfl, rfl, rfl, rfl, rfl, rfl, rfl, rfl, rfl, trivial⟩ ?_
          refine QW.then_ ?_
          refine CW.condT rfl ?_
          refine CW.seq ?_
          refine CW.region ?_
          refine RG.vl rfl rfl rfl (Ev.build1 rfl rfl rfl inf_28 rfl rfl (by kernel_rfl) rfl) ?_
          refine RG.stAll (g := gX) rfl rfl rfl rfl rfl sz_28 rfl rfl rfl hbX (fun ws37 hwws37 hbws37 => ?_)
          replace hbG := Blk.far hbG hwws37 (by omega)
          replace hbW := Blk.far hbW hwws37 (by omega)
          replace hbY := Blk.far hbY hwws37 (by omega)
          replace hxwl30 := Wr.below hxwl30 hwws37 hle5
          refine RG.st (g := gY) (k := 0) rfl rfl rfl rfl rfl sz_29 rfl hbY rfl (fun ws38 hwws38 hbws38 => ?_)
          replace hbG := Blk.far hbG hwws38 (by omega)
          replace hbW := Blk.far hbW hwws38 (by omega)
          replace hbws37 := Blk.far hbws37 hwws38 (by omega)
          replace hxwl30 := Wr.below hxwl30 hwws38 hle10
          refine RG.done ?_
          refine QW.then_ ?_
          refine CW.ret ?_
          refine QW.thenRet ?_
          refine QW.blockR ?_
          refine QW.thenRet ?_
          refine QW.thenRet ?_
          refine QW.blockR ?_
          refine QW.thenRet ?_
          refine QW.noGotoR ?_
          refine retBox rfl rfl rfl Try.underlying28 rfl sz_28 rfl (us := [.slice none 0 0, .slice none 0 0]) hbws37 Try.underlying29 rfl (x := .int .i64 2) hbws38 ?_
          have hB := (Ex.tr hB0 hxwl30)
          have ham := List.mem_of_getElem? hx
          have hbad : ¬ okE l.length ei := fun h => by
            have h1 := h.1 a ham
            first | omega | exact dup_no hx (toNat_mem (fun y hy => (hall y hy).1) (by omega) (by assumption)) h.2
          exact ⟨_, _, [], [], 2, rfl, Own.nil_ _ _ _ _ _, Own.nil_ _ _ _ _ _, .inl ⟨.inr hbad, rfl, rfl, rfl⟩, hB⟩
        · refine RG.vl rfl rfl rfl ((Ev.move rfl rfl).conv (congrArg (Value.int .i64) (show a = ((a.toNat : Nat) : Int) by omega))) ?_
          refine RG.vl rfl rfl rfl (Ev.idxA rfl rfl rfl Try.underlying56 sz_4 (by omega)) ?_
          refine RG.vl rfl rfl rfl (Ev.ldAt rfl rfl Try.underlying4 rfl (hbG.cells) ((show (goneC (erN (ei.take i)))[a.toNat * 1]? = some (.bool (decide (a.toNat ∈ erN (ei.take i)))) by rw [Nat.mul_one]; exact goneC_at _ (by omega)))) ?_
          refine RG.vl rfl rfl rfl (Ev.pickF rfl rfl rfl) ?_
          refine RG.done ?_
          refine QW.sub (S' := [(1, _), (2, _), (4, _), (5, _), (6, _), (8, _), (19, _), (20, _), (21, _), (37, _)]) ⟨rfl, rfl, rfl, rfl, rfl, rfl, rfl, rfl, rfl, rfl, trivial⟩ ?_
          refine QW.then_ ?_
          refine CW.condP rfl (fun hc39 => ?_) (fun hc39 => ?_)
          · refine CW.seq ?_
            refine CW.region ?_
            refine RG.vl rfl rfl rfl (Ev.build1 rfl rfl rfl inf_28 rfl rfl (by kernel_rfl) rfl) ?_
            refine RG.stAll (g := gX) rfl rfl rfl rfl rfl sz_28 rfl rfl rfl hbX (fun ws40 hwws40 hbws40 => ?_)
            replace hbG := Blk.far hbG hwws40 (by omega)
            replace hbW := Blk.far hbW hwws40 (by omega)
            replace hbY := Blk.far hbY hwws40 (by omega)
            replace hxwl30 := Wr.below hxwl30 hwws40 hle5
            refine RG.st (g := gY) (k := 0) rfl rfl rfl rfl rfl sz_29 rfl hbY rfl (fun ws41 hwws41 hbws41 => ?_)
            replace hbG := Blk.far hbG hwws41 (by omega)
            replace hbW := Blk.far hbW hwws41 (by omega)
            replace hbws40 := Blk.far hbws40 hwws41 (by omega)
            replace hxwl30 := Wr.below hxwl30 hwws41 hle10
            refine RG.done ?_
            refine QW.then_ ?_
            refine CW.ret ?_
            refine QW.thenRet ?_
            refine QW.blockR ?_
            refine QW.thenRet ?_
            refine QW.thenRet ?_
            refine QW.blockR ?_
            refine QW.thenRet ?_
            refine QW.noGotoR ?_
            refine retBox rfl rfl rfl Try.underlying28 rfl sz_28 rfl (us := [.slice none 0 0, .slice none 0 0]) hbws40 Try.underlying29 rfl (x := .int .i64 2) hbws41 ?_
            have hB := (Ex.tr hB0 hxwl30)
            have ham := List.mem_of_getElem? hx
            have hbad : ¬ okE l.length ei := fun h => by
              have h1 := h.1 a ham
              first | omega | exact dup_no hx (toNat_mem (fun y hy => (hall y hy).1) (by omega) (by assumption)) h.2
            exact ⟨_, _, [], [], 2, rfl, Own.nil_ _ _ _ _ _, Own.nil_ _ _ _ _ _, .inl ⟨.inr hbad, rfl, rfl, rfl⟩, hB⟩
          · refine CW.skip ?_
            refine QW.then_ ?_
            refine CW.region ?_
            refine RG.vl rfl rfl rfl ((Ev.move rfl rfl).conv (congrArg (Value.int .i64) (show a = ((a.toNat : Nat) : Int) by omega))) ?_
            refine RG.vl rfl rfl rfl (Ev.idxA rfl rfl rfl Try.underlying56 sz_4 (by omega)) ?_
            refine RG.st (g := gG) (k := _) rfl rfl rfl rfl rfl sz_4 rfl hbG (by rw [goneC_len, Nat.blt_eq]; omega) (fun ws42 hwws42 hbws42 => ?_)
            replace hbW := Blk.far hbW hwws42 (by omega)
            replace hbX := Blk.far hbX hwws42 (by omega)
            replace hbY := Blk.far hbY hwws42 (by omega)
            replace hxwl30 := Wr.below hxwl30 hwws42 hle22
            rw [goneC_set] at hbws42
            refine RG.done ?_
            refine QW.blockN ?_
            refine QW.then_ ?_
            refine CW.region ?_
            refine RG.vl rfl rfl rfl (Ev.addI rfl rfl rfl (by omega)) ?_
            refine RG.vl rfl rfl rfl (Ev.move rfl rfl) ?_
            refine RG.done ?_
            refine QW.round1 (i + 1) ⟨rfl, trivial⟩ ⟨rfl, rfl, rfl, rfl, rfl, rfl, rfl, trivial⟩ ⟨⟨by omega, fun y hy => by rw [List.take_add_one, hx] at hy; rcases List.mem_append.1 hy with h | h; exact hall y h; rw [Option.mem_toList] at h; injection h with h; omega, nodup_more hnd hx (fun hm => absurd (List.mem_map_of_mem hm : a.toNat ∈ erN (ei.take i)) (by assumption)), by rw [erN_more hx]; exact hbws42, hbW, hbX, hbY⟩, (Ex.tr hB0 hxwl30)⟩ (by omega)
    · refine CW.exit ?_
      refine QW.thenExit ?_
      refine QW.thenExit ?_
      refine QW.blockHit ?_
      refine QW.then_ ?_
      refine CW.seq ?_
      refine CW.seq ?_
      obtain rfl : i = ei.length := by omega
      rw [List.take_length] at hall hnd hbG
      have hok : okE l.length ei := ⟨hall, hnd⟩
      refine CW.region ?_
      refine RG.vl rfl rfl rfl (Ev.move rfl rfl) ?_
      refine RG.vl rfl rfl rfl (Ev.lenL rfl rfl rfl Try.underlying23 ((he.ext hxwl30))) ?_
      refine RG.vl rfl rfl rfl (Ev.gtr rfl rfl rfl) ?_
      refine RG.done ?_
      refine QW.then_ ?_
      refine CW.condP rfl (fun hc43 => ?_) (fun hc43 => ?_)
      · refine CW.seq ?_
        refine CW.region ?_
        refine RG.vl rfl rfl rfl (Ev.build1 rfl rfl rfl inf_28 rfl rfl (by kernel_rfl) rfl) ?_
        refine RG.stAll (g := gX) rfl rfl rfl rfl rfl sz_28 rfl rfl rfl hbX (fun ws44 hwws44 hbws44 => ?_)
        replace hbG := Blk.far hbG hwws44 (by omega)
        replace hbW := Blk.far hbW hwws44 (by omega)
        replace hbY := Blk.far hbY hwws44 (by omega)
        replace hxwl30 := Wr.below hxwl30 hwws44 hle5
        refine RG.st (g := gY) (k := 0) rfl rfl rfl rfl rfl sz_29 rfl hbY rfl (fun ws45 hwws45 hbws45 => ?_)
        replace hbG := Blk.far hbG hwws45 (by omega)
        replace hbW := Blk.far hbW hwws45 (by omega)
        replace hbws44 := Blk.far hbws44 hwws45 (by omega)
        replace hxwl30 := Wr.below hxwl30 hwws45 hle10
        refine RG.done ?_
        refine QW.then_ ?_
        refine CW.ret ?_
        refine QW.thenRet ?_
        refine QW.noGotoR ?_
        refine retBox rfl rfl rfl Try.underlying28 rfl sz_28 rfl (us := [.slice none 0 0, .slice none 0 0]) hbws44 Try.underlying29 rfl (x := .int .i64 190) hbws45 ?_
        have hB := (Ex.tr hB0 hxwl30)
        exact ⟨_, _, [], [], 190, rfl, Own.nil_ _ _ _ _ _, Own.nil_ _ _ _ _ _, .inr ⟨hyes, hok, .inl ⟨by omega, rfl, rfl, rfl⟩⟩, hB⟩
      · refine CW.skip ?_
        refine QW.then_ ?_
        refine CW.seq ?_
        have hez := rdl_z he (fun a ha => (hok.1 a ha).1)
        refine CW.region ?_
        refine RG.vl rfl rfl rfl (Ev.ld0 rfl rfl Try.underlying22 rfl (hbW.cells) (rfl)) ?_
        refine RG.call rfl rfl rfl rfl rfl rfl rfl en_35 (syn_ret _ l _ ((hl.ext hxwl30)) hel hw2) ?_
        rintro _ w46 ⟨rfl, hx46⟩
        replace hxwl30 := Ex.tr hxwl30 hx46
        have hE47 := hx46
        refine RG.local_ rfl rfl rfl rfl (fun _ => rfl) rfl rfl (fun _ => rfl) inf_57 rfl rfl rfl (fun gS w48 egS hx48 hb48 => ?_)
        have hle49 : w.heap.size ≤ gS := by have := hxwl30.size; omega
        have hle50 : wl30.heap.size ≤ gS := by have := hE47.size; omega
        have hle51 : w46.heap.size ≤ gS := by have := (Ex.rfl_ w46).size; omega
        have hlt52 : gG < gS := by have := Blk.lt (hbG.ext hE47); omega
        have hlt53 : gW < gS := by have := Blk.lt (hbW.ext hE47); omega
        have hlt54 : gX < gS := by have := Blk.lt (hbX.ext hE47); omega
        have hlt55 : gY < gS := by have := Blk.lt (hbY.ext hE47); omega
        replace hxwl30 := Ex.tr hxwl30 hx48
        replace hE47 := Ex.tr hE47 hx48
        refine RG.done ?_
        refine QW.then_ ?_
        refine CW.seq ?_
        refine CW.label ?_
        refine QW.then_ ?_
        refine CW.seq ?_
        refine CW.seq ?_
        refine CW.region ?_
        refine RG.vl rfl rfl rfl (Ev.ld0 rfl rfl Try.underlying22 rfl ((hbW.ext hE47).cells) (rfl)) ?_
        refine RG.vl rfl rfl rfl (Ev.lenL rfl rfl rfl Try.underlying22 ((hl.ext hxwl30))) ?_
        refine RG.vl rfl rfl rfl (Ev.move rfl rfl) ?_
        refine RG.vl rfl rfl rfl (Ev.ldAgg rfl rfl Try.underlying56 rfl sz_56 rfl ((hbG.ext hE47).cells)) ?_
        refine RG.call rfl rfl rfl rfl rfl rfl rfl en_36 (cand_ret l.length _ _ _ (goneC (erN ei)) _) ?_
        rintro _ w56 ⟨⟨gN, gE, gC, rfl, hN, hE, hC⟩, hx56⟩
        replace hxwl30 := Ex.tr hxwl30 hx56
        replace hE47 := Ex.tr hE47 hx56
        have hE57 := hx56
        refine RG.done ?_
        refine QW.then_ ?_
        refine CW.block ?_
        replace hl := (hl.ext hxwl30)
        replace he := (he.ext hxwl30)
        replace hbG := (hbG.ext hE47)
        replace hbW := (hbW.ext hE47)
        replace hbX := (hbX.ext hE47)
        replace hbY := (hbY.ext hE47)
        replace hez := (hez.ext hxwl30)
        replace hb48 := (hb48.ext hE57)
        have hR58 := (Ex.tr hB0 hxwl30)
        have hR59 := hE47
        have hR60 := hE57
        have hw1 := hR58
        have hgX0 := hle5
        have hgY0 := hle10
        have hlenE : (erN ei).length = ei.length := List.length_map ..
        have hltX := Blk.lt hbX
        have hltY := Blk.lt hbY
        have hern : ∀ a ∈ erN ei, a < l.length := fun a ha => by obtain ⟨z, hz, rfl⟩ := List.mem_map.1 ha; have := hok.1 z hz; omega
        have htold := iter_told 5 l.length eA eC (erN ei) w56 (by rw [hlenE]; exact hE) hN hC (by rw [hlenE]; exact hez) (by omega) hw2
        refine CW.fenced 6 ?_
        intro a hf
        refine wpIn_rangeTold (by decide) (gf := 53) (hf.1.eval (x := .tmp 52) rfl) en_53 htold (fun _ => rfl) (fun pre A => Below w56.heap.size w56 A ∧ ∀ y ∈ pre, NoF l y.2)
          (fun _ A => ∃ r x c es P q rest, Blk A gX 28 [r, x] ∧ Blk A gY 29 [.int .i64 0] ∧ Own A w.heap.size 5 1 encN r c ∧ Own A w.heap.size 3 1 encZ x es ∧ Below w.heap.size w A ∧ candL l.length (erN ei) = q ++ P :: rest ∧ (∀ Q ∈ q, NoF l Q) ∧ YesF l P c ∧ es = freeL P (erN ei))
          (fun s A B row h hg hr => ⟨h.1.grown hg h.1.size hr, h.2⟩) ?ix (fun s x A d o o' h ho hc => ⟨h.1.put o' ho hc, h.2⟩) ⟨Below.refl _ _, by simp⟩ (fun x => ({ tmps := a.tmps.setIfInBounds 53 x.1, defers := [] } : Act).put (some 10) x.1) ?assign ?body ?done ?stop
        case ix =>
          rintro s A d o o' ⟨r, x, c, es, P, q, rest, h1, h2, h3, h4, h5, h6⟩ hd ho hc
          exact ⟨r, x, c, es, P, q, rest, h1.put o' ho hc, h2.put o' ho hc, h3.put o' ho hc, h4.put o' ho hc, Below.trans h5 (Kc.put o' (Nat.le_trans hw1.size hd) ho hc).1, h6⟩
        case assign =>
          intro d x W K hK
          exact assign1 (open_round d) rfl rfl rfl (by have := hf.1.sz; simp at this; omega) hK
        case body =>
          rintro d pre ⟨xv, P⟩ W ⟨hI1, hI2⟩ ⟨hrx, hpf⟩
          have hszW := hI1.size
          have hPm : P ∈ candL l.length (erN ei) := hpf.subset (by simp)
          obtain ⟨hP4, hPn⟩ := cand_in hPm (by omega) hern
          have hrx : RdL W 1 encZ xv P := hrx
          obtain ⟨xA, xC, rfl⟩ := hrx.shape
          refine CWJ.into (S := _) ((hf.1.put (d := 53) rfl).put rfl) ?_
          refine CWJ.sub (S' := [(10, _), (2, _), (4, _), (5, _), (6, _), (9, _)]) ⟨rfl, rfl, rfl, rfl, rfl, rfl, trivial⟩ ?_
          refine CWJ.block ?_
          refine CWJ.seq ?_
          refine CWJ.region rfl (fun _ _ h => h) ?_
          refine RG.vl rfl rfl rfl (Ev.ld0 rfl rfl Try.underlying22 rfl ((hbW.ext hI1).cells) (rfl)) ?_
          refine RG.vl rfl rfl rfl (Ev.lenL rfl rfl rfl Try.underlying22 ((hl.ext hI1))) ?_
          refine RG.vl rfl rfl rfl (Ev.move rfl rfl) ?_
          refine RG.vl rfl rfl rfl (Ev.ldAgg rfl rfl Try.underlying57 rfl sz_57 rfl ((hb48.ext hI1).cells)) ?_
          refine RG.call rfl rfl rfl rfl rfl rfl rfl en_37 (eqsOf_ret l.length _ P (syL l) _ (hrx) hP4 hw2 hPn rfl) ?_
          rintro _ w61 ⟨rfl, hx61⟩
          replace hI1 := Ex.tr hI1 hx61
          have hE62 := hx61
          replace hl := (hl.ext hI1)
          replace he := (he.ext hI1)
          replace hbG := (hbG.ext hI1)
          replace hbW := (hbW.ext hI1)
          replace hbX := (hbX.ext hI1)
          replace hbY := (hbY.ext hI1)
          replace hez := (hez.ext hI1)
          replace hb48 := (hb48.ext hI1)
          replace hN := (hN.ext hI1)
          replace hE := (hE.ext hI1)
          replace hC := (hC.ext hI1)
          replace hrx := (hrx.ext hE62)
          have hR63 := (Ex.tr hw1 hI1)
          have hR64 := hI1
          have hR65 := hE62
          refine RG.local_ rfl rfl rfl rfl (fun _ => rfl) rfl rfl (fun _ => rfl) inf_64 rfl rfl rfl (fun gM w66 egM hx66 hb66 => ?_)
          have hle67 : w61.heap.size ≤ gM := by have := (Ex.rfl_ w61).size; omega
          have hlt68 : gG < gM := by have := Blk.lt hbG; omega
          have hlt69 : gW < gM := by have := Blk.lt hbW; omega
          have hlt70 : gX < gM := by have := Blk.lt hbX; omega
          have hlt71 : gY < gM := by have := Blk.lt hbY; omega
          have hlt72 : gS < gM := by have := Blk.lt hb48; omega
          have hlt73 : gN < gM := by have := Blk.lt hN; omega
          have hlt74 : gE < gM := by have := Blk.lt hE; omega
          have hlt75 : gC < gM := by have := Blk.lt hC; omega
          have hE76 := hx66
          refine RG.done ?_
          refine QWJ.then_ ?_
          refine CWJ.seq ?_
          refine CWJ.seq ?_
          refine CWJ.region rfl (fun _ _ h => h) ?_
          refine RG.vl rfl rfl rfl (Ev.move rfl rfl) ?_
          refine RG.vl rfl rfl rfl (Ev.lenL rfl rfl rfl Try.underlying23 ((hrx.ext hE76))) ?_
          refine RG.call rfl rfl rfl rfl rfl rfl rfl en_38 (solve_ret w61 gM P.length (eqM l.length P (syL l)) _ hE76 hle67 hb66 (eqM_el hsyl) hP4) ?_
          rintro _ w77 ⟨bv, M, rfl, hbw78, hsv, hxw79⟩
          replace hE76 := hxw79
          refine RG.vl rfl rfl rfl (Ev.not rfl rfl) ?_
          refine RG.done ?_
          refine QWJ.then_ ?_
          refine CWJ.cond rfl (fun hc80 => ?_) (fun hc80 => ?_)
          · refine CWJ.exit ?_
            refine QW.thenExit ?_
            refine QW.blockHit ?_
            have hbv : bv = false := by simpa using (by assumption : (!bv) = true)
            rw [hbv] at hsv
            exact QW.of fun _ => ⟨others_ex (Ex.tr hR65 hE76), Kc.of_ex (Ex.tr hR65 hE76) hszW, (Ex.tr hR64 hE76), fun y hy => (List.mem_append.1 hy).elim (hI2 y) (fun h => by rw [List.mem_singleton.1 h]; exact ⟨_, hsv⟩)⟩
          · refine CWJ.skip ?_
            refine QWJ.then_ ?_
            refine CWJ.seq ?_
            have hbv : bv = true := by simpa using (by assumption : (!bv) = false)
            rw [hbv] at hsv
            have hM := (hsv.1 rfl).1
            have hs4 := ((Ex.tr hR64 hE76)).size
            refine CWJ.region rfl (fun _ _ h => h) ?_
            refine RG.vl rfl rfl rfl (Ev.ld0 rfl rfl Try.underlying22 rfl ((hbW.ext hE76).cells) (rfl)) ?_
            replace hl := (hl.ext hE76)
            replace he := (he.ext hE76)
            replace hbG := (hbG.ext hE76)
            replace hbW := (hbW.ext hE76)
            replace hbX := (hbX.ext hE76)
            replace hbY := (hbY.ext hE76)
            replace hez := (hez.ext hE76)
            replace hb48 := (hb48.ext hE76)
            replace hN := (hN.ext hE76)
            replace hE := (hE.ext hE76)
            replace hC := (hC.ext hE76)
            replace hrx := (hrx.ext hE76)
            have hR81 := (Ex.tr hR63 hE76)
            have hR82 := (Ex.tr hR64 hE76)
            have hR83 := (Ex.tr hR65 hE76)
            have hR84 := hE76
            refine RG.call rfl rfl rfl rfl rfl rfl rfl en_39 (clone_ret _ l _ (hl) hlen) ?_
            have hpre85 := hR81
            rintro vc w85 ⟨hoc0, hx85⟩
            have hsb86 := fun e => sep_blk hbG (Nat.le_refl _) hoc0 e
            have hsb87 := fun e => sep_blk hbW (Nat.le_refl _) hoc0 e
            have hsb88 := fun e => sep_blk hbX (Nat.le_refl _) hoc0 e
            have hsb89 := fun e => sep_blk hbY (Nat.le_refl _) hoc0 e
            have hsb90 := fun e => sep_blk hb48 (Nat.le_refl _) hoc0 e
            have hsb91 := fun e => sep_blk hN (Nat.le_refl _) hoc0 e
            have hsb92 := fun e => sep_blk hE (Nat.le_refl _) hoc0 e
            have hsb93 := fun e => sep_blk hC (Nat.le_refl _) hoc0 e
            have hsb94 := fun e => sep_blk hbw78 (Nat.le_refl _) hoc0 e
            have hE95 := hx85
            obtain ⟨Avc, Cvc, rfl⟩ := hoc0.shape
            have hoc := hoc0
            refine RG.vl rfl rfl rfl (Ev.build1 rfl rfl rfl inf_28 rfl rfl (by kernel_rfl) rfl) ?_
            refine RG.local_ rfl rfl rfl rfl (fun _ => rfl) rfl rfl (fun _ => rfl) inf_28 rfl rfl rfl (fun gF w96 egF hx96 hb96 => ?_)
            have hsb97 := fun e => sep_new (g := gF) hoc egF e
            have hle98 : w77.heap.size ≤ gF := by have := hE95.size; omega
            have hle99 : w85.heap.size ≤ gF := by have := (Ex.rfl_ w85).size; omega
            have hlt100 : gG < gF := by have := Blk.lt (hbG.ext hE95); omega
            have hlt101 : gW < gF := by have := Blk.lt (hbW.ext hE95); omega
            have hlt102 : gX < gF := by have := Blk.lt (hbX.ext hE95); omega
            have hlt103 : gY < gF := by have := Blk.lt (hbY.ext hE95); omega
            have hlt104 : gS < gF := by have := Blk.lt (hb48.ext hE95); omega
            have hlt105 : gN < gF := by have := Blk.lt (hN.ext hE95); omega
            have hlt106 : gE < gF := by have := Blk.lt (hE.ext hE95); omega
            have hlt107 : gC < gF := by have := Blk.lt (hC.ext hE95); omega
            have hlt108 : gM < gF := by have := Blk.lt (hbw78.ext hE95); omega
            replace hE95 := Ex.tr hE95 hx96
            have hE109 := hx96
            refine RG.done ?_
            refine QW.sub (S' := [(4, _), (5, _), (6, _), (10, _), (11, _), (12, _)]) ⟨rfl, rfl, rfl, rfl, rfl, rfl, trivial⟩ ?_
            refine QWJ.then_ ?_
            refine CWJ.seq ?_
            refine CWJ.seq ?_
            refine CWJ.region rfl (fun _ _ h => h) ?_
            refine RG.vl rfl rfl rfl (Ev.move rfl rfl) ?_
            refine RG.vl rfl rfl rfl (Ev.lenL rfl rfl rfl Try.underlying23 ((hrx.ext hE95))) ?_
            refine RG.vl rfl rfl rfl (Ev.move rfl rfl) ?_
            refine RG.done ?_
            refine QWJ.then_ ?_
            refine CWJ.block ?_
            refine CWJ.loop2 [(4, _), (5, _), (6, _), (11, _), (12, _), (66, _), (67, _)] ⟨rfl, rfl, rfl, rfl, rfl, rfl, rfl, trivial⟩ (fun (i : Nat) (ve : Value) => [(68, .int .i64 (i : Int))]) (fun i ve w' => (i ≤ P.length ∧ Blk w' gF 28 [(Value.slice Avc l.length Cvc), ve] ∧ Own w' w77.heap.size 5 1 encN (Value.slice Avc l.length Cvc) (fixL l P M i) ∧ Own w' w77.heap.size 3 1 encZ ve (freeL (P.take i) (erN ei)) ∧ Sep (Value.slice Avc l.length Cvc) ve ∧ (ve.ownBlock = some gF → False)) ∧ Ex w77 w') (fun i ve => P.length - i) (0) (.slice none 0 0) ⟨rfl, trivial⟩ ⟨⟨Nat.zero_le _, hb96, (Own.ext hoc hE109), Own.nil_ _ _ _ _ _, (Sep.nil_ _).symm, fun e => by cases e⟩, hE95⟩ ?_
            rintro i ve wl110 ⟨⟨hi, hbF, hoc, hoe, hsp, hsb⟩, hxwl110⟩
            refine CWJ.sub (S' := [(68, _), (4, _), (5, _), (6, _), (11, _), (12, _), (66, _), (67, _)]) ⟨rfl, rfl, rfl, rfl, rfl, rfl, rfl, rfl, trivial⟩ ?_
            refine CWJ.seq ?_
            refine CWJ.region rfl (fun _ _ h => h) ?_
            refine RG.vl rfl rfl rfl (Ev.lss rfl rfl rfl) ?_
            refine RG.done ?_
            refine QWJ.then_ ?_
            refine CWJ.seq ?_
            refine CWJ.condP rfl (fun hc111 => ?_) (fun hc111 => ?_)
            · refine CWJ.skip ?_
              refine QWJ.then_ ?_
              refine CWJ.seq ?_
              refine CWJ.block ?_
              refine CWJ.seq ?_
              obtain ⟨a, hpl⟩ : ∃ a, P[i]? = some a := ⟨_, List.getElem?_eq_getElem (by omega)⟩
              have hal := hPn a (List.mem_of_getElem? hpl)
              have hfl := fixL_len l P M i
              have hfe := (fixL_el (P := P) hel hM i (by omega)).cf a
              have hm4 := hM i 4 (by omega) (by omega)
              have hxr := xor_lt64 _ _ hfe hm4
              have hfr := freeL_len P (erN ei) i
              refine CWJ.region rfl (fun _ _ h => h) ?_
              refine RG.vl rfl rfl rfl (Ev.move rfl rfl) ?_
              refine RG.idxL rfl rfl rfl rfl rfl rfl Try.underlying23 sz_3 ((hrx.ext hxwl110)) (hpl) (fun p112 hp112b hp112 => ?_)
              refine RG.vl rfl rfl rfl (Ev.ld0 rfl rfl Try.underlying3 rfl (hp112) (rfl)) ?_
              refine RG.vl rfl rfl rfl (Ev.assign rfl rfl) ?_
              refine RG.vl rfl rfl rfl (Ev.assign rfl rfl) ?_
              refine RG.done ?_
              refine QWJ.then_ ?_
              refine CWJ.seq ?_
              refine CWJ.draw [11] (.ex) 12 rfl mixed rfl (fun _ _ h => h) (fun wd113 hxwd113 => ?_)
              replace hxwl110 := Ex.tr hxwl110 hxwd113
              have hE114 := hxwd113
              refine AG.takeW 0 rfl (by kernel_rfl) (by kernel_rfl) rfl rfl rfl (fun _ => Ev.fld rfl rfl fld_28_0) ?_
              refine AG.take 1 rfl (by kernel_rfl) (by kernel_rfl) rfl rfl rfl (fun wq hq => Ev.ldAt rfl rfl Try.underlying22 rfl (((hbF.ext hE114).ext hq).cells) (rfl)) ?_
              refine AG.takeW 2 rfl (by kernel_rfl) (by kernel_rfl) rfl rfl rfl (fun _ => Ev.move rfl rfl) ?_
              refine AG.idxO _ 3 rfl (by kernel_rfl) (by kernel_rfl) rfl rfl rfl rfl rfl rfl Try.underlying22 sz_5 encN_len ((Own.ext hoc hE114)) (getElem?_cf (by omega)) (fun g116 hg116 hBg116 hp115b hp115 => ?_)
              refine AG.take 4 rfl (by kernel_rfl) (by kernel_rfl) rfl rfl rfl (fun wq hq => Ev.ld0 rfl rfl Try.underlying5 rfl (hp115.ext hq hp115b) (rfl)) ?_
              refine AG.takeW 5 rfl (by kernel_rfl) (by kernel_rfl) rfl rfl rfl (fun _ => Ev.move rfl rfl) ?_
              refine AG.takeW 6 rfl (by kernel_rfl) (by kernel_rfl) rfl rfl rfl (fun _ => Ev.idxA rfl rfl rfl Try.underlying64 sz_62 (by omega)) ?_
              refine AG.takeW 7 rfl (by kernel_rfl) (by kernel_rfl) rfl rfl rfl (fun _ => Ev.idxA (i := 4) rfl rfl rfl Try.underlying62 sz_5 (by omega)) ?_
              refine AG.take 8 rfl (by kernel_rfl) (by kernel_rfl) rfl rfl rfl (fun wq hq => Ev.ldAA rfl rfl Try.underlying5 rfl (((hbw78.ext hxwl110).ext hq).cells) ((show (mc _)[i * 5 + 4 * 1]? = some (.int .u8 (M i 4 : Int)) by rw [mc_at _ (by omega) (by omega)]))) ?_
              refine AG.takeW 9 rfl (by kernel_rfl) (by kernel_rfl) rfl rfl rfl (fun _ => Ev.xor8 rfl rfl rfl (by omega) (by omega)) ?_
              refine AG.idxO _ 10 rfl (by kernel_rfl) (by kernel_rfl) rfl rfl rfl rfl rfl rfl Try.underlying22 sz_5 encN_len ((Own.ext hoc hE114)) (getElem?_cf (by omega)) (fun g118 hg118 hBg118 hp117b hp117 => ?_)
              refine AG.only 11 rfl (by kernel_rfl) ?_
              refine RG.stOw0 (g := g118) (cf (fixL l P M i) a ^^^ M i 4) rfl rfl rfl rfl rfl sz_5 rfl (fun _ => rfl) (Own.ext hoc hE114) hg118 (getElem?_cf (by omega)) rfl (rfl) (fun ws120 hwws120 hown121 => ?_)
              replace hbF := Blk.far (hbF.ext hE114) hwws120 (fun e => hsb97 (by rw [e]; exact hg118))
              replace hoe := Own.far (Own.ext hoe hE114) hwws120 (fun e => hsp _ hg118 e)
              replace hxwl110 := Wr.below hxwl110 hwws120 hBg118
              refine RG.done ?_
              refine QW.an (fun h => by simp at h) ?_
              refine AG.done (by kernel_rfl) ?_
              refine QW.sub (S' := [(4, _), (5, _), (6, _), (11, _), (12, _), (14, _), (66, _), (67, _), (68, _)]) ⟨rfl, rfl, rfl, rfl, rfl, rfl, rfl, rfl, rfl, trivial⟩ ?_
              refine QWJ.then_ ?_
              refine CWJ.seq ?_
              refine CWJ.region rfl (fun _ _ h => h) ?_
              refine RG.vl rfl rfl rfl (Ev.move rfl rfl) ?_
              refine RG.vl rfl rfl rfl (Ev.idxA rfl rfl rfl Try.underlying56 sz_4 (by omega)) ?_
              refine RG.vl rfl rfl rfl (Ev.ldAt rfl rfl Try.underlying4 rfl ((hbG.ext hxwl110).cells) ((show (goneC (erN ei))[a * 1]? = some (.bool (decide (a ∈ erN ei))) by rw [Nat.mul_one]; exact goneC_at _ (by omega)))) ?_
              refine RG.vl rfl rfl rfl (Ev.notP rfl rfl) ?_
              refine RG.done ?_
              refine QWJ.then_ ?_
              refine CWJ.condP rfl (fun hc122 => ?_) (fun hc122 => ?_)
              · refine CWJ.region rfl (fun _ _ h => h) ?_
                refine RG.vl rfl rfl rfl (Ev.fld rfl rfl fld_28_1) ?_
                refine RG.vl rfl rfl rfl (Ev.ldAt rfl rfl Try.underlying23 rfl (hbF.cells) (rfl)) ?_
                refine RG.vl rfl rfl rfl (Ev.move rfl rfl) ?_
                refine RG.litO (os := [.tmp 90]) (enc := encZ) ([a]) rfl rfl rfl rfl rfl rfl rfl Try.underlying23 inf_3 rfl rfl rfl rfl rfl encZ_len rfl rfl (fun v123 wk124 hxwk124 hown125 hnew126 => ?_)
                have hsep127 : Sep v123 _ := Sep.of_new hoe hnew126
                have hsep128 : Sep v123 _ := Sep.of_new hown121 hnew126
                have hsb129 := fun e => sep_blk (hbG.ext hxwl110) (Nat.le_refl _) hown125 e
                have hsb130 := fun e => sep_blk (hbW.ext hxwl110) (Nat.le_refl _) hown125 e
                have hsb131 := fun e => sep_blk (hbX.ext hxwl110) (Nat.le_refl _) hown125 e
                have hsb132 := fun e => sep_blk (hbY.ext hxwl110) (Nat.le_refl _) hown125 e
                have hsb133 := fun e => sep_blk (hb48.ext hxwl110) (Nat.le_refl _) hown125 e
                have hsb134 := fun e => sep_blk (hN.ext hxwl110) (Nat.le_refl _) hown125 e
                have hsb135 := fun e => sep_blk (hE.ext hxwl110) (Nat.le_refl _) hown125 e
                have hsb136 := fun e => sep_blk (hC.ext hxwl110) (Nat.le_refl _) hown125 e
                have hsb137 := fun e => sep_blk (hbw78.ext hxwl110) (Nat.le_refl _) hown125 e
                have hsb138 := fun e => sep_blk hbF (Nat.le_refl _) hown125 e
                replace hxwl110 := Ex.tr hxwl110 hxwk124
                have hE139 := hxwk124
                refine RG.appO rfl rfl rfl rfl rfl rfl rfl Try.underlying23 inf_3 rfl rfl encZ_len (fun _ => rfl) (Own.ext hoe hE139) ((hown125.rdl encZ_len)) (by show _ + 1 ≤ maxLen; simp only [maxLen]; omega) (by show (_ + 1) * _ ≤ _; omega) (hxwl110.size) (fun v140 wa141 hown142 hgr143 hat144 => ?_)
                have hb145 := Blk.grown (hbF.ext hE139) hgr143 (fun e => hsb e.symm)
                have hsb146 := sepb_app hsb (hbF.ext hE139) hat144
                have hsep148 := Sep.app (Sep.symm hsp) (Own.ext hown121 hE139) hat144
                have hown147 := Own.grown (Own.ext hown121 hE139) hgr143 (fun k a b => (Sep.symm hsp) k b a)
                have hsep150 := Sep.app (Sep.symm hsep127) hown125 hat144
                have hown149 := Own.grown hown125 hgr143 (fun k a b => (Sep.symm hsep127) k b a)
                replace hxwl110 := own_block (Own.ext hoe hE139) hxwl110 hgr143 (Nat.le_refl _) hxwl110.size
                obtain ⟨Av140, Cv140, rfl⟩ := hown142.shape
                refine RG.vl rfl rfl rfl (Ev.fld rfl rfl fld_28_1) ?_
                refine RG.st (g := gF) (k := 1) rfl rfl rfl rfl rfl sz_23 rfl hb145 rfl (fun ws151 hwws151 hbws151 => ?_)
                replace hown147 := Own.far hown147 hwws151 hsb97
                replace hown149 := Own.far hown149 hwws151 hsb138
                replace hown142 := Own.far hown142 hwws151 hsb146
                replace hxwl110 := Wr.below hxwl110 hwws151 hle98
                refine RG.done ?_
                refine QW.blockN ?_
                refine QWJ.then_ ?_
                refine CWJ.region rfl (fun _ _ h => h) ?_
                refine RG.vl rfl rfl rfl (Ev.addI rfl rfl rfl (by omega)) ?_
                refine RG.vl rfl rfl rfl (Ev.move rfl rfl) ?_
                refine RG.done ?_
                refine QW.round2 (i + 1) ((Value.slice Av140 _ Cv140)) ⟨rfl, trivial⟩ ⟨rfl, rfl, rfl, rfl, rfl, rfl, rfl, trivial⟩ ⟨⟨by omega, hbws151, by rw [← fixL_more hpl]; exact hown147, by rw [freeL_yes hpl (by assumption)]; exact hown142, (Sep.symm hsep148), hsb146⟩, hxwl110⟩ (by omega)
              · refine CWJ.skip ?_
                refine QW.blockN ?_
                refine QWJ.then_ ?_
                refine CWJ.region rfl (fun _ _ h => h) ?_
                refine RG.vl rfl rfl rfl (Ev.addI rfl rfl rfl (by omega)) ?_
                refine RG.vl rfl rfl rfl (Ev.move rfl rfl) ?_
                refine RG.done ?_
                refine QW.round2 (i + 1) (ve) ⟨rfl, trivial⟩ ⟨rfl, rfl, rfl, rfl, rfl, rfl, rfl, trivial⟩ ⟨⟨by omega, hbF, by rw [← fixL_more hpl]; exact hown121, by rw [freeL_no hpl (Decidable.not_not.1 (by assumption))]; exact hoe, hsp, hsb⟩, hxwl110⟩ (by omega)
            · refine CWJ.exit ?_
              refine QW.thenExit ?_
              refine QW.thenExit ?_
              refine QW.blockHit ?_
              refine QWJ.then_ ?_
              refine CWJ.seq ?_
              obtain rfl : i = P.length := by omega
              have hoe2 := hoe
              rw [List.take_length] at hoe2
              obtain ⟨A2, C2, rfl⟩ := hoe2.shape
              have hoc2 := hoc
              have hxW := (Ex.tr hR83 hxwl110)
              have hxw := (Ex.tr hR81 hxwl110)
              have hX4 := (hbX.ext hxwl110)
              have hY4 := (hbY.ext hxwl110)
              have hsX : gX < w77.heap.size := Blk.lt hbX
              have hsY : gY < w77.heap.size := Blk.lt hbY
              refine CWJ.region rfl (fun _ _ h => h) ?_
              refine RG.vl rfl rfl rfl (Ev.ldAgg rfl rfl Try.underlying28 rfl sz_28 rfl (hbF.cells)) ?_
              refine RG.stAll (g := gX) rfl rfl rfl rfl rfl sz_28 rfl rfl rfl hX4 (fun wA hwA hbA => ?_)
              have hY5 := Blk.far hY4 hwA (by omega)
              refine RG.st (g := gY) (k := 0) rfl rfl rfl rfl rfl sz_29 rfl hY5 rfl (fun wB hwB hbY9 => ?_)
              have hbX9 := Blk.far hbA hwB (by omega)
              have ho9 := ((hoc2.far hwA (fun e => by have := hoc2.ge e; omega)).far hwB (fun e => by have := hoc2.ge e; omega)).low (B' := w.heap.size) (Nat.le_trans hw1.size hs4)
              have he9 := ((hoe2.far hwA (fun e => by have := hoe2.ge e; omega)).far hwB (fun e => by have := hoe2.ge e; omega)).low (B' := w.heap.size) (Nat.le_trans hw1.size hs4)
              have hx9 : Below w.heap.size w wB := Wr.below (Wr.below hxw hwA hgX0) hwB hgY0
              have hko := ((others_ex hxW).trans (others_wr hwA hX4)).trans (others_wr hwB hY5)
              refine RG.done ?_
              refine QWJ.then_ ?_
              refine CWJ.ret ?_
              refine QW.blockR ?_
              obtain ⟨rest, hrest⟩ := hpf
              exact QW.of fun _ => ⟨hko, _, _, _, _, P, pre.map Prod.snd, rest, hbX9, hbY9, ho9, he9, hx9, by rw [← hrest, List.map_append, List.append_assoc]; rfl, fun Q hQ => by obtain ⟨y, hy, rfl⟩ := List.mem_map.1 hQ; exact hI2 y hy, ⟨M, hsv, rfl⟩, rfl⟩
        case done =>
          rintro D xs W hD hS ⟨hI1, hI2⟩ hK
          have hfr : FrD [{ target := .collected D, args := #[] }] 97 [(4, .pointer (some ⟨gX, 0, none⟩)), (5, .pointer (some ⟨gY, 0, none⟩))] { a with defers := { target := .collected D, args := #[] } :: a.defers } := ⟨hf.1.sub ⟨rfl, rfl, trivial⟩, by rw [hf.2]⟩
          have hX2 := Blk.ext hbX hI1
          have hY2 := Blk.ext hbY hI1
          show Code.wp _ _ _ _ _
          refine (wpIn_wide (n := 6)).1 ?_
          refine CWI.seq ?_ _ hfr
          refine CWI.region ?_
          refine RGI.vl open_wide rfl rfl rfl (by intro c h; cases h) (Ev.build1 rfl rfl rfl inf_28 rfl rfl (by kernel_rfl) rfl) ?_
          refine RGI.stAll (g := gX) open_wide rfl rfl rfl rfl rfl sz_28 rfl rfl rfl hX2 (fun wA hwA hbA => ?_)
          have hY3 := Blk.far hY2 hwA (by omega)
          refine RGI.st1 (g := gY) open_wide rfl rfl rfl rfl rfl sz_29 rfl hY3 (fun wB hwB hbB => ?_)
          have hbA2 := Blk.far hbA hwB (by omega)
          refine RGI.done (CWI.then_ (S' := [(4, .pointer (some ⟨gX, 0, none⟩)), (5, .pointer (some ⟨gY, 0, none⟩))]) ⟨rfl, rfl, trivial⟩ ?_)
          have hK2 := ((others_wr hwA hX2).trans (others_wr hwB hY3)).same D _ hK rfl
          have hxB : Below w.heap.size w wB := Wr.below (Wr.below (Ex.tr hw1 hI1) hwA hgX0) hwB hgY0
          exact CWI.ret (retBoxM rfl rfl rfl Try.underlying28 rfl sz_28 rfl (us := [.slice none 0 0, .slice none 0 0]) hbA2 Try.underlying29 rfl (x := .int .i64 190) hbB hK2 ⟨_, _, [], [], 190, rfl, Own.nil_ _ _ _ _ _, Own.nil_ _ _ _ _ _, .inr ⟨hyes, hok, .inr ⟨by omega, .inl ⟨fun P hP => by rw [← hS] at hP; obtain ⟨y, hy, rfl⟩ := List.mem_map.1 hP; exact hI2 y hy, rfl, rfl, rfl⟩⟩⟩, Below.trans hxB (Kc.put _ (Nat.le_trans hw1.size hD) hK2 rfl).1⟩)
        case stop =>
          rintro D pre W hD ⟨r, x, c, es, P, q, rest, h1, h2, h3, h4, h5, h6, h7, h8, h9⟩ hK
          have hfr : FrD [{ target := .collected D, args := #[] }] 97 [(4, .pointer (some ⟨gX, 0, none⟩)), (5, .pointer (some ⟨gY, 0, none⟩))] { a with defers := { target := .collected D, args := #[] } :: a.defers } := ⟨hf.1.sub ⟨rfl, rfl, trivial⟩, by rw [hf.2]⟩
          refine CWI.ret (fun a ha => ?_) _ hfr
          refine retBoxM (p := 4) (q := 5) (T := 28) (U := 29) (fn := Try.f13) rfl rfl rfl Try.underlying28 rfl sz_28 rfl (us := [r, x]) h1 Try.underlying29 rfl (x := .int .i64 0) h2 hK ?_ a ha
          exact ⟨r, x, c, es, 0, rfl, h3.put _ hK rfl, h4.put _ hK rfl, .inr ⟨hyes, hok, .inr ⟨by omega, .inr ⟨q, P, rest, h6, h7, h8, rfl, h9⟩⟩⟩, Below.trans h5 (Kc.put _ (Nat.le_trans hw1.size hD) hK rfl).1⟩

end Go.Proofs.Ytjhgihgggofocaa
