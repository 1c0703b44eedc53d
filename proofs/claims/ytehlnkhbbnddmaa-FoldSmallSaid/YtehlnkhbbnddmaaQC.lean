/- Walks (QC). Written by program. -/
import Derived.Test.YtehlnkhbbnddmaaT
import Derived.Test.YtehlnkhbbnddmaaQA
import Derived.Test.YtehlnkhbbnddmaaOC
namespace Go.Proofs.Ytehlnkhbbnddmaa
open Go.RowKit
set_option maxRecDepth 100000 in
set_option maxHeartbeats 8000000 in
theorem rtable_ret  (w : World)  :
    Ret Try.prog 37 [] w (fun v w' => Own w' w.heap.size 55 3 Rw.c v tab ∧ Ex w w') := by
  have hB0 : Ex w w := Ex.rfl_ _
  refine Ret.of Try.func37 rfl Try.ntmps37 rfl ?_
  refine CW.seq ?_
  refine CW.region ?_
  refine RG.vl rfl rfl rfl (Ev.assign rfl rfl) ?_
  refine RG.done ?_
  refine QW.then_ ?_
  refine CW.seq ?_
  refine CW.region ?_
  refine RG.vl rfl rfl rfl (Ev.build1 rfl rfl rfl inf_55 rfl rfl (by kernel_rfl) rfl) ?_
  refine RG.vl rfl rfl rfl (Ev.build1 rfl rfl rfl inf_55 rfl rfl (by kernel_rfl) rfl) ?_
  refine RG.vl rfl rfl rfl (Ev.build1 rfl rfl rfl inf_55 rfl rfl (by kernel_rfl) rfl) ?_
  refine RG.vl rfl rfl rfl (Ev.build1 rfl rfl rfl inf_55 rfl rfl (by kernel_rfl) rfl) ?_
  refine RG.vl rfl rfl rfl (Ev.build1 rfl rfl rfl inf_55 rfl rfl (by kernel_rfl) rfl) ?_
  refine RG.vl rfl rfl rfl (Ev.build1 rfl rfl rfl inf_55 rfl rfl (by kernel_rfl) rfl) ?_
  refine RG.vl rfl rfl rfl (Ev.build1 rfl rfl rfl inf_55 rfl rfl (by kernel_rfl) rfl) ?_
  refine RG.vl rfl rfl rfl (Ev.build1 rfl rfl rfl inf_55 rfl rfl (by kernel_rfl) rfl) ?_
  refine RG.vl rfl rfl rfl (Ev.build1 rfl rfl rfl inf_55 rfl rfl (by kernel_rfl) rfl) ?_
  refine RG.vl rfl rfl rfl (Ev.build1 rfl rfl rfl inf_55 rfl rfl (by kernel_rfl) rfl) ?_
  refine RG.vl rfl rfl rfl (Ev.build1 rfl rfl rfl inf_55 rfl rfl (by kernel_rfl) rfl) ?_
  refine RG.vl rfl rfl rfl (Ev.build1 rfl rfl rfl inf_55 rfl rfl (by kernel_rfl) rfl) ?_
  refine RG.vl rfl rfl rfl (Ev.build1 rfl rfl rfl inf_55 rfl rfl (by kernel_rfl) rfl) ?_
  refine RG.vl rfl rfl rfl (Ev.build1 rfl rfl rfl inf_55 rfl rfl (by kernel_rfl) rfl) ?_
  refine RG.vl rfl rfl rfl (Ev.build1 rfl rfl rfl inf_55 rfl rfl (by kernel_rfl) rfl) ?_
  refine RG.vl rfl rfl rfl (Ev.build1 rfl rfl rfl inf_55 rfl rfl (by kernel_rfl) rfl) ?_
  refine RG.vl rfl rfl rfl (Ev.build1 rfl rfl rfl inf_55 rfl rfl (by kernel_rfl) rfl) ?_
  refine RG.vl rfl rfl rfl (Ev.build1 rfl rfl rfl inf_55 rfl rfl (by kernel_rfl) rfl) ?_
  refine RG.vl rfl rfl rfl (Ev.build1 rfl rfl rfl inf_55 rfl rfl (by kernel_rfl) rfl) ?_
  refine RG.vl rfl rfl rfl (Ev.build1 rfl rfl rfl inf_55 rfl rfl (by kernel_rfl) rfl) ?_
  refine RG.vl rfl rfl rfl (Ev.build1 rfl rfl rfl inf_55 rfl rfl (by kernel_rfl) rfl) ?_
  refine RG.vl rfl rfl rfl (Ev.build1 rfl rfl rfl inf_55 rfl rfl (by kernel_rfl) rfl) ?_
  refine RG.vl rfl rfl rfl (Ev.build1 rfl rfl rfl inf_55 rfl rfl (by kernel_rfl) rfl) ?_
  refine RG.vl rfl rfl rfl (Ev.build1 rfl rfl rfl inf_55 rfl rfl (by kernel_rfl) rfl) ?_
  refine RG.vl rfl rfl rfl (Ev.build1 rfl rfl rfl inf_55 rfl rfl (by kernel_rfl) rfl) ?_
  refine RG.vl rfl rfl rfl (Ev.build1 rfl rfl rfl inf_55 rfl rfl (by kernel_rfl) rfl) ?_
  refine RG.vl rfl rfl rfl (Ev.build1 rfl rfl rfl inf_55 rfl rfl (by kernel_rfl) rfl) ?_
  refine RG.vl rfl rfl rfl (Ev.build1 rfl rfl rfl inf_55 rfl rfl (by kernel_rfl) rfl) ?_
  refine RG.vl rfl rfl rfl (Ev.build1 rfl rfl rfl inf_55 rfl rfl (by kernel_rfl) rfl) ?_
  refine RG.vl rfl rfl rfl (Ev.build1 rfl rfl rfl inf_55 rfl rfl (by kernel_rfl) rfl) ?_
  refine RG.vl rfl rfl rfl (Ev.build1 rfl rfl rfl inf_55 rfl rfl (by kernel_rfl) rfl) ?_
  refine RG.vl rfl rfl rfl (Ev.build1 rfl rfl rfl inf_55 rfl rfl (by kernel_rfl) rfl) ?_
  refine RG.vl rfl rfl rfl (Ev.build1 rfl rfl rfl inf_55 rfl rfl (by kernel_rfl) rfl) ?_
  refine RG.vl rfl rfl rfl (Ev.build1 rfl rfl rfl inf_55 rfl rfl (by kernel_rfl) rfl) ?_
  refine RG.vl rfl rfl rfl (Ev.build1 rfl rfl rfl inf_55 rfl rfl (by kernel_rfl) rfl) ?_
  refine RG.vl rfl rfl rfl (Ev.build1 rfl rfl rfl inf_55 rfl rfl (by kernel_rfl) rfl) ?_
  refine RG.vl rfl rfl rfl (Ev.build1 rfl rfl rfl inf_55 rfl rfl (by kernel_rfl) rfl) ?_
  refine RG.vl rfl rfl rfl (Ev.build1 rfl rfl rfl inf_55 rfl rfl (by kernel_rfl) rfl) ?_
  refine RG.vl rfl rfl rfl (Ev.build1 rfl rfl rfl inf_55 rfl rfl (by kernel_rfl) rfl) ?_
  refine RG.vl rfl rfl rfl (Ev.build1 rfl rfl rfl inf_55 rfl rfl (by kernel_rfl) rfl) ?_
  refine RG.litO (os := [.tmp 1, .tmp 2, .tmp 3, .tmp 4, .tmp 5, .tmp 6, .tmp 7, .tmp 8, .tmp 9, .tmp 10, .tmp 11, .tmp 12, .tmp 13, .tmp 14, .tmp 15, .tmp 16, .tmp 17, .tmp 18, .tmp 19, .tmp 20, .tmp 21, .tmp 22, .tmp 23, .tmp 24, .tmp 25, .tmp 26, .tmp 27, .tmp 28, .tmp 29, .tmp 30, .tmp 31, .tmp 32, .tmp 33, .tmp 34, .tmp 35, .tmp 36, .tmp 37, .tmp 38, .tmp 39, .tmp 40]) (enc := Rw.c) (tab) rfl rfl rfl rfl rfl rfl rfl Try.underlying53 inf_55 rfl rfl rfl rfl rfl Rw.c_len rfl rfl (fun v1 wk2 hxwk2 hown3 hnew4 => ?_)
  have hE5 := hxwk2
  refine RG.vl rfl rfl rfl (Ev.assign rfl rfl) ?_
  refine RG.done ?_
  refine QW.sub (S' := [(0, _)]) ⟨rfl, trivial⟩ ?_
  refine QW.then_ ?_
  refine CW.ret ?_
  refine QW.ret1 rfl rfl ?_
  have hB := (Ex.tr hB0 hE5)
  exact ⟨hown3, hB⟩

set_option maxRecDepth 100000 in
set_option maxHeartbeats 1000000 in
theorem of_ret (r : Rw) (k : Nat) (s : List UInt8) (w : World)  :
    Ret Try.prog 48 [.agg r.c.toArray, .int .u8 (k : Int), .string ⟨s.toArray⟩] w (fun v w' => v = .bool (hitL k s r) ∧ Ex w w') := by
  have hB0 : Ex w w := Ex.rfl_ _
  refine Ret.of Try.func48 rfl Try.ntmps48 rfl ?_
  refine CW.seq ?_
  refine CW.region ?_
  refine RG.box rfl rfl rfl rfl rfl (fun g1 w1 eg1 hx1 hb1 => ?_)
  have hle2 : w.heap.size ≤ g1 := by have := (Ex.rfl_ w).size; omega
  have hE3 := hx1
  refine RG.vl rfl rfl rfl (Ev.assign rfl rfl) ?_
  refine RG.done ?_
  refine QW.then_ ?_
  refine CW.seq ?_
  refine CW.region ?_
  refine RG.vl rfl rfl rfl (Ev.move rfl rfl) ?_
  refine RG.vl rfl rfl rfl (Ev.eqI rfl rfl rfl) ?_
  refine RG.vl rfl rfl rfl (Ev.move rfl rfl) ?_
  refine RG.split (d := 9) rfl (fun hg4 => ?_) (fun hg4 => ?_)
  · refine RG.pass rfl rfl rfl ?_
    refine RG.pass rfl rfl rfl ?_
    refine RG.pass rfl rfl rfl ?_
    refine RG.pass rfl rfl rfl ?_
    refine RG.vl rfl rfl rfl (Ev.pickT rfl rfl rfl) ?_
    refine RG.vl rfl rfl rfl (Ev.move rfl rfl) ?_
    refine RG.vl rfl rfl rfl (Ev.move rfl rfl) ?_
    refine RG.vl rfl rfl rfl (Ev.fld rfl rfl fld_55_1) ?_
    refine RG.vl rfl rfl rfl (Ev.ldAt rfl rfl Try.underlying9 rfl (hb1.cells) (rfl)) ?_
    refine RG.vl rfl rfl rfl (Ev.eqS rfl rfl rfl) ?_
    refine RG.vl rfl rfl rfl (Ev.move rfl rfl) ?_
    refine RG.split (d := 20) rfl (fun hg5 => ?_) (fun hg5 => ?_)
    · refine RG.pass rfl rfl rfl ?_
      refine RG.pass rfl rfl rfl ?_
      refine RG.pass rfl rfl rfl ?_
      refine RG.pass rfl rfl rfl ?_
      refine RG.vl rfl rfl rfl (Ev.pickT rfl rfl rfl) ?_
      refine RG.vl rfl rfl rfl (Ev.pickT rfl rfl rfl) ?_
      refine RG.vl rfl rfl rfl (Ev.assign rfl rfl) ?_
      refine RG.done ?_
      refine QW.sub (S' := [(6, _)]) ⟨rfl, trivial⟩ ?_
      refine QW.then_ ?_
      refine CW.ret ?_
      refine QW.ret1 rfl rfl ?_
      have hB := (Ex.tr hB0 hE3)
      refine ⟨congrArg Value.bool ?_, hB⟩
      unfold hitL
      first
        | exact (decide_eq_false (fun h => by rcases h.1 with e | e <;> omega)).symm
        | exact (decide_eq_true ⟨by omega, .inl (binj.1 (by assumption)).symm⟩).symm
        | exact decide_eq_decide.2 ⟨fun h => ⟨by omega, .inr (binj.1 h).symm⟩, fun h => by rcases h.2 with e | e; exact absurd (binj.2 e.symm) (by assumption); exact binj.2 e.symm⟩
    · refine RG.vl rfl rfl rfl (Ev.move rfl rfl) ?_
      refine RG.vl rfl rfl rfl (Ev.fld rfl rfl fld_55_2) ?_
      refine RG.vl rfl rfl rfl (Ev.ldAt rfl rfl Try.underlying9 rfl (hb1.cells) (rfl)) ?_
      refine RG.vl rfl rfl rfl (Ev.eqS rfl rfl rfl) ?_
      refine RG.vl rfl rfl rfl (Ev.pickF rfl rfl rfl) ?_
      refine RG.vl rfl rfl rfl (Ev.pickT rfl rfl rfl) ?_
      refine RG.vl rfl rfl rfl (Ev.assign rfl rfl) ?_
      refine RG.done ?_
      refine QW.sub (S' := [(6, _)]) ⟨rfl, trivial⟩ ?_
      refine QW.then_ ?_
      refine CW.ret ?_
      refine QW.ret1 rfl rfl ?_
      have hB := (Ex.tr hB0 hE3)
      refine ⟨congrArg Value.bool ?_, hB⟩
      unfold hitL
      first
        | exact (decide_eq_false (fun h => by rcases h.1 with e | e <;> omega)).symm
        | exact (decide_eq_true ⟨by omega, .inl (binj.1 (by assumption)).symm⟩).symm
        | exact decide_eq_decide.2 ⟨fun h => ⟨by omega, .inr (binj.1 h).symm⟩, fun h => by rcases h.2 with e | e; exact absurd (binj.2 e.symm) (by assumption); exact binj.2 e.symm⟩
  · refine RG.vl rfl rfl rfl (Ev.fld rfl rfl fld_55_0) ?_
    refine RG.vl rfl rfl rfl (Ev.ldAt rfl rfl Try.underlying5 rfl (hb1.cells) (rfl)) ?_
    refine RG.vl rfl rfl rfl (Ev.move rfl rfl) ?_
    refine RG.vl rfl rfl rfl (Ev.eqI rfl rfl rfl) ?_
    refine RG.vl rfl rfl rfl (Ev.pickF rfl rfl rfl) ?_
    refine RG.vl rfl rfl rfl (Ev.move rfl rfl) ?_
    refine RG.split (d := 15) rfl (fun hg6 => ?_) (fun hg6 => ?_)
    · refine RG.vl rfl rfl rfl (Ev.move rfl rfl) ?_
      refine RG.vl rfl rfl rfl (Ev.fld rfl rfl fld_55_1) ?_
      refine RG.vl rfl rfl rfl (Ev.ldAt rfl rfl Try.underlying9 rfl (hb1.cells) (rfl)) ?_
      refine RG.vl rfl rfl rfl (Ev.eqS rfl rfl rfl) ?_
      refine RG.vl rfl rfl rfl (Ev.move rfl rfl) ?_
      refine RG.split (d := 20) rfl (fun hg7 => ?_) (fun hg7 => ?_)
      · refine RG.pass rfl rfl rfl ?_
        refine RG.pass rfl rfl rfl ?_
        refine RG.pass rfl rfl rfl ?_
        refine RG.pass rfl rfl rfl ?_
        refine RG.vl rfl rfl rfl (Ev.pickT rfl rfl rfl) ?_
        refine RG.vl rfl rfl rfl (Ev.pickT rfl rfl rfl) ?_
        refine RG.vl rfl rfl rfl (Ev.assign rfl rfl) ?_
        refine RG.done ?_
        refine QW.sub (S' := [(6, _)]) ⟨rfl, trivial⟩ ?_
        refine QW.then_ ?_
        refine CW.ret ?_
        refine QW.ret1 rfl rfl ?_
        have hB := (Ex.tr hB0 hE3)
        refine ⟨congrArg Value.bool ?_, hB⟩
        unfold hitL
        first
          | exact (decide_eq_false (fun h => by rcases h.1 with e | e <;> omega)).symm
          | exact (decide_eq_true ⟨by omega, .inl (binj.1 (by assumption)).symm⟩).symm
          | exact decide_eq_decide.2 ⟨fun h => ⟨by omega, .inr (binj.1 h).symm⟩, fun h => by rcases h.2 with e | e; exact absurd (binj.2 e.symm) (by assumption); exact binj.2 e.symm⟩
      · refine RG.vl rfl rfl rfl (Ev.move rfl rfl) ?_
        refine RG.vl rfl rfl rfl (Ev.fld rfl rfl fld_55_2) ?_
        refine RG.vl rfl rfl rfl (Ev.ldAt rfl rfl Try.underlying9 rfl (hb1.cells) (rfl)) ?_
        refine RG.vl rfl rfl rfl (Ev.eqS rfl rfl rfl) ?_
        refine RG.vl rfl rfl rfl (Ev.pickF rfl rfl rfl) ?_
        refine RG.vl rfl rfl rfl (Ev.pickT rfl rfl rfl) ?_
        refine RG.vl rfl rfl rfl (Ev.assign rfl rfl) ?_
        refine RG.done ?_
        refine QW.sub (S' := [(6, _)]) ⟨rfl, trivial⟩ ?_
        refine QW.then_ ?_
        refine CW.ret ?_
        refine QW.ret1 rfl rfl ?_
        have hB := (Ex.tr hB0 hE3)
        refine ⟨congrArg Value.bool ?_, hB⟩
        unfold hitL
        first
          | exact (decide_eq_false (fun h => by rcases h.1 with e | e <;> omega)).symm
          | exact (decide_eq_true ⟨by omega, .inl (binj.1 (by assumption)).symm⟩).symm
          | exact decide_eq_decide.2 ⟨fun h => ⟨by omega, .inr (binj.1 h).symm⟩, fun h => by rcases h.2 with e | e; exact absurd (binj.2 e.symm) (by assumption); exact binj.2 e.symm⟩
    · refine RG.pass rfl rfl rfl ?_
      refine RG.pass rfl rfl rfl ?_
      refine RG.pass rfl rfl rfl ?_
      refine RG.pass rfl rfl rfl ?_
      refine RG.pass rfl rfl rfl ?_
      refine RG.pass rfl rfl rfl ?_
      refine RG.pass rfl rfl rfl ?_
      refine RG.pass rfl rfl rfl ?_
      refine RG.pass rfl rfl rfl ?_
      refine RG.pass rfl rfl rfl ?_
      refine RG.vl rfl rfl rfl (Ev.pickF rfl rfl rfl) ?_
      refine RG.vl rfl rfl rfl (Ev.assign rfl rfl) ?_
      refine RG.done ?_
      refine QW.sub (S' := [(6, _)]) ⟨rfl, trivial⟩ ?_
      refine QW.then_ ?_
      refine CW.ret ?_
      refine QW.ret1 rfl rfl ?_
      have hB := (Ex.tr hB0 hE3)
      refine ⟨congrArg Value.bool ?_, hB⟩
      unfold hitL
      first
        | exact (decide_eq_false (fun h => by rcases h.1 with e | e <;> omega)).symm
        | exact (decide_eq_true ⟨by omega, .inl (binj.1 (by assumption)).symm⟩).symm
        | exact decide_eq_decide.2 ⟨fun h => ⟨by omega, .inr (binj.1 h).symm⟩, fun h => by rcases h.2 with e | e; exact absurd (binj.2 e.symm) (by assumption); exact binj.2 e.symm⟩

set_option maxRecDepth 100000 in
set_option maxHeartbeats 1000000 in
theorem rin_ret (u : Value) (l : List (List UInt8)) (x : List UInt8) (w : World) (hl : RdL w 1 encT u l) (hlen : l.length ≤ 1000) :
    Ret Try.prog 49 [u, .string ⟨x.toArray⟩] w (fun v w' => v = .bool (decide (x ∈ l)) ∧ Ex w w') := by
  have hB0 : Ex w w := Ex.rfl_ _
  refine Ret.of Try.func49 rfl Try.ntmps49 rfl ?_
  refine CW.seq ?_
  refine CW.region ?_
  refine RG.vl rfl rfl rfl (Ev.assign rfl rfl) ?_
  refine RG.done ?_
  refine QW.then_ ?_
  refine CW.seq ?_
  refine CW.seq ?_
  refine CW.region ?_
  refine RG.vl rfl rfl rfl (Ev.assign rfl rfl) ?_
  refine RG.done ?_
  refine QW.then_ ?_
  refine CW.block ?_
  refine CW.loop1 [(0, _), (1, _)] ⟨rfl, rfl, trivial⟩ (fun (i : Nat) => [(5, .int .i64 i)]) (fun i w' => (i ≤ l.length ∧ ∀ j y, j < i → l[j]? = some y → y ≠ x) ∧ Ex w w') (fun i => l.length - i) (0) ⟨rfl, trivial⟩ ⟨⟨Nat.zero_le _, fun j y h => absurd h (by omega)⟩, hB0⟩ ?_
  rintro i wl1 ⟨⟨hi, hno⟩, hxwl1⟩
  refine CW.sub (S' := [(5, _), (0, _), (1, _)]) ⟨rfl, rfl, rfl, trivial⟩ ?_
  refine CW.seq ?_
  refine CW.seq ?_
  refine CW.region ?_
  refine RG.vl rfl rfl rfl (Ev.move rfl rfl) ?_
  refine RG.vl rfl rfl rfl (Ev.move rfl rfl) ?_
  refine RG.vl rfl rfl rfl (Ev.lenL rfl rfl rfl Try.underlying32 ((hl.ext hxwl1))) ?_
  refine RG.vl rfl rfl rfl (Ev.lss rfl rfl rfl) ?_
  refine RG.done ?_
  refine QW.then_ ?_
  refine CW.condP rfl (fun hc2 => ?_) (fun hc2 => ?_)
  · refine CW.skip ?_
    refine QW.then_ ?_
    refine CW.seq ?_
    refine CW.block ?_
    refine CW.seq ?_
    obtain ⟨y, hk⟩ : ∃ y, l[i]? = some y := ⟨_, List.getElem?_eq_getElem (by omega)⟩
    refine CW.region ?_
    refine RG.vl rfl rfl rfl (Ev.move rfl rfl) ?_
    refine RG.vl rfl rfl rfl (Ev.move rfl rfl) ?_
    refine RG.idxL rfl rfl rfl rfl rfl rfl Try.underlying32 sz_9 ((hl.ext hxwl1)) (hk) (fun p3 hp3b hp3 => ?_)
    refine RG.vl rfl rfl rfl (Ev.ld0 rfl rfl Try.underlying9 rfl (hp3) (rfl)) ?_
    refine RG.vl rfl rfl rfl (Ev.move rfl rfl) ?_
    refine RG.vl rfl rfl rfl (Ev.eqS rfl rfl rfl) ?_
    refine RG.done ?_
    refine QW.then_ ?_
    refine CW.condP rfl (fun hc4 => ?_) (fun hc4 => ?_)
    · refine CW.seq ?_
      refine CW.region ?_
      refine RG.vl rfl rfl rfl (Ev.assign rfl rfl) ?_
      refine RG.done ?_
      refine QW.then_ ?_
      refine CW.ret ?_
      refine QW.blockR ?_
      refine QW.thenRet ?_
      refine QW.thenRet ?_
      refine QW.blockR ?_
      refine QW.thenRet ?_
      refine QW.ret1 rfl rfl ?_
      have hB := (Ex.tr hB0 hxwl1)
      refine ⟨congrArg Value.bool ?_, hB⟩
      exact (decide_eq_true (by have e := binj.1 (show (⟨y.toArray⟩ : ByteArray) = ⟨x.toArray⟩ by assumption); rw [← e]; exact List.mem_of_getElem? hk)).symm
    · refine CW.skip ?_
      refine QW.blockN ?_
      refine QW.then_ ?_
      refine CW.region ?_
      refine RG.vl rfl rfl rfl (Ev.move rfl rfl) ?_
      refine RG.vl rfl rfl rfl (Ev.addI rfl rfl rfl (by omega)) ?_
      refine RG.vl rfl rfl rfl (Ev.assign rfl rfl) ?_
      refine RG.done ?_
      refine QW.round1 (i + 1) ⟨rfl, trivial⟩ ⟨rfl, rfl, trivial⟩ ⟨⟨by omega, fun j y' hj hy => by rcases Nat.lt_or_ge j i with h | h; exact hno j y' h hy; obtain rfl : j = i := (by omega); rw [hk] at hy; injection hy with hy; subst hy; exact fun e => absurd (binj.2 e) (by assumption)⟩, (Ex.tr hB0 hxwl1)⟩ (by omega)
  · refine CW.exit ?_
    refine QW.thenExit ?_
    refine QW.thenExit ?_
    refine QW.blockHit ?_
    refine QW.then_ ?_
    refine CW.seq ?_
    refine CW.region ?_
    refine RG.vl rfl rfl rfl (Ev.assign rfl rfl) ?_
    refine RG.done ?_
    refine QW.then_ ?_
    refine CW.ret ?_
    refine QW.ret1 rfl rfl ?_
    have hB := (Ex.tr hB0 hxwl1)
    refine ⟨congrArg Value.bool ?_, hB⟩
    exact (decide_eq_false (fun h => by obtain ⟨j, hj⟩ := List.mem_iff_getElem?.1 h; exact hno j _ (by have := (List.getElem?_eq_some_iff.1 hj).1; omega) hj rfl)).symm

end Go.Proofs.Ytehlnkhbbnddmaa
