/- Walks (OE). Written by program. -/
import Derived.Test.YtehlnkhbbnddmaaT
import Derived.Test.YtehlnkhbbnddmaaOQ
namespace Go.Proofs.Ytehlnkhbbnddmaa
open Go.RowKit
set_option maxRecDepth 100000 in
set_option maxHeartbeats 1000000 in
theorem longs1_ret (r : Rw) (k : Nat) (s : List UInt8) (gK gT : Nat) (w : World) (h1 : Blk w gK 5 [.int .u8 (k : Int)]) (h2 : Blk w gT 9 [.string ⟨s.toArray⟩]) :
    Ret Try.prog 32 [.agg r.c.toArray, .pointer (some ⟨gK, 0, none⟩), .pointer (some ⟨gT, 0, none⟩)] w (fun v w' => v = .bool (hitL k s r) ∧ Ex w w') := by
  have hB0 : Ex w w := Ex.rfl_ _
  refine Ret.of Try.func32 rfl Try.ntmps32 rfl ?_
  refine CW.seq ?_
  refine CW.region ?_
  refine RG.box rfl rfl rfl rfl rfl (fun g1 w1 eg1 hx1 hb1 => ?_)
  have hle2 : w.heap.size ≤ g1 := by have := (Ex.rfl_ w).size; omega
  have hlt3 : gK < g1 := by have := Blk.lt h1; omega
  have hlt4 : gT < g1 := by have := Blk.lt h2; omega
  have hE5 := hx1
  refine RG.vl rfl rfl rfl (Ev.assign rfl rfl) ?_
  refine RG.done ?_
  refine QW.then_ ?_
  refine CW.seq ?_
  refine CW.region ?_
  refine RG.vl rfl rfl rfl (Ev.ld0 rfl rfl Try.underlying5 rfl ((h1.ext hE5).cells) (rfl)) ?_
  refine RG.vl rfl rfl rfl (Ev.eqI rfl rfl rfl) ?_
  refine RG.vl rfl rfl rfl (Ev.move rfl rfl) ?_
  refine RG.split (d := 7) rfl (fun hg6 => ?_) (fun hg6 => ?_)
  · refine RG.pass rfl rfl rfl ?_
    refine RG.pass rfl rfl rfl ?_
    refine RG.pass rfl rfl rfl ?_
    refine RG.pass rfl rfl rfl ?_
    refine RG.vl rfl rfl rfl (Ev.pickT rfl rfl rfl) ?_
    refine RG.vl rfl rfl rfl (Ev.move rfl rfl) ?_
    refine RG.vl rfl rfl rfl (Ev.fld rfl rfl fld_30_1) ?_
    refine RG.vl rfl rfl rfl (Ev.ldAt rfl rfl Try.underlying9 rfl (hb1.cells) (rfl)) ?_
    refine RG.vl rfl rfl rfl (Ev.ld0 rfl rfl Try.underlying9 rfl ((h2.ext hE5).cells) (rfl)) ?_
    refine RG.vl rfl rfl rfl (Ev.eqS rfl rfl rfl) ?_
    refine RG.vl rfl rfl rfl (Ev.move rfl rfl) ?_
    refine RG.split (d := 18) rfl (fun hg7 => ?_) (fun hg7 => ?_)
    · refine RG.pass rfl rfl rfl ?_
      refine RG.pass rfl rfl rfl ?_
      refine RG.pass rfl rfl rfl ?_
      refine RG.pass rfl rfl rfl ?_
      refine RG.vl rfl rfl rfl (Ev.pickT rfl rfl rfl) ?_
      refine RG.vl rfl rfl rfl (Ev.pickT rfl rfl rfl) ?_
      refine RG.vl rfl rfl rfl (Ev.assign rfl rfl) ?_
      refine RG.done ?_
      refine QW.sub (S' := [(4, _)]) ⟨rfl, trivial⟩ ?_
      refine QW.then_ ?_
      refine CW.ret ?_
      refine QW.ret1 rfl rfl ?_
      have hB := (Ex.tr hB0 hE5)
      refine ⟨congrArg Value.bool ?_, hB⟩
      unfold hitL
      first
        | exact (decide_eq_false (fun h => by rcases h.1 with e | e <;> omega)).symm
        | exact (decide_eq_true ⟨by omega, .inl (binj.1 (by assumption))⟩).symm
        | exact decide_eq_decide.2 ⟨fun h => ⟨by omega, .inr (binj.1 h)⟩, fun h => by rcases h.2 with e | e; exact absurd (binj.2 e) (by assumption); exact binj.2 e⟩
    · refine RG.vl rfl rfl rfl (Ev.fld rfl rfl fld_30_2) ?_
      refine RG.vl rfl rfl rfl (Ev.ldAt rfl rfl Try.underlying9 rfl (hb1.cells) (rfl)) ?_
      refine RG.vl rfl rfl rfl (Ev.ld0 rfl rfl Try.underlying9 rfl ((h2.ext hE5).cells) (rfl)) ?_
      refine RG.vl rfl rfl rfl (Ev.eqS rfl rfl rfl) ?_
      refine RG.vl rfl rfl rfl (Ev.pickF rfl rfl rfl) ?_
      refine RG.vl rfl rfl rfl (Ev.pickT rfl rfl rfl) ?_
      refine RG.vl rfl rfl rfl (Ev.assign rfl rfl) ?_
      refine RG.done ?_
      refine QW.sub (S' := [(4, _)]) ⟨rfl, trivial⟩ ?_
      refine QW.then_ ?_
      refine CW.ret ?_
      refine QW.ret1 rfl rfl ?_
      have hB := (Ex.tr hB0 hE5)
      refine ⟨congrArg Value.bool ?_, hB⟩
      unfold hitL
      first
        | exact (decide_eq_false (fun h => by rcases h.1 with e | e <;> omega)).symm
        | exact (decide_eq_true ⟨by omega, .inl (binj.1 (by assumption))⟩).symm
        | exact decide_eq_decide.2 ⟨fun h => ⟨by omega, .inr (binj.1 h)⟩, fun h => by rcases h.2 with e | e; exact absurd (binj.2 e) (by assumption); exact binj.2 e⟩
  · refine RG.vl rfl rfl rfl (Ev.fld rfl rfl fld_30_0) ?_
    refine RG.vl rfl rfl rfl (Ev.ldAt rfl rfl Try.underlying5 rfl (hb1.cells) (rfl)) ?_
    refine RG.vl rfl rfl rfl (Ev.ld0 rfl rfl Try.underlying5 rfl ((h1.ext hE5).cells) (rfl)) ?_
    refine RG.vl rfl rfl rfl (Ev.eqI rfl rfl rfl) ?_
    refine RG.vl rfl rfl rfl (Ev.pickF rfl rfl rfl) ?_
    refine RG.vl rfl rfl rfl (Ev.move rfl rfl) ?_
    refine RG.split (d := 13) rfl (fun hg8 => ?_) (fun hg8 => ?_)
    · refine RG.vl rfl rfl rfl (Ev.fld rfl rfl fld_30_1) ?_
      refine RG.vl rfl rfl rfl (Ev.ldAt rfl rfl Try.underlying9 rfl (hb1.cells) (rfl)) ?_
      refine RG.vl rfl rfl rfl (Ev.ld0 rfl rfl Try.underlying9 rfl ((h2.ext hE5).cells) (rfl)) ?_
      refine RG.vl rfl rfl rfl (Ev.eqS rfl rfl rfl) ?_
      refine RG.vl rfl rfl rfl (Ev.move rfl rfl) ?_
      refine RG.split (d := 18) rfl (fun hg9 => ?_) (fun hg9 => ?_)
      · refine RG.pass rfl rfl rfl ?_
        refine RG.pass rfl rfl rfl ?_
        refine RG.pass rfl rfl rfl ?_
        refine RG.pass rfl rfl rfl ?_
        refine RG.vl rfl rfl rfl (Ev.pickT rfl rfl rfl) ?_
        refine RG.vl rfl rfl rfl (Ev.pickT rfl rfl rfl) ?_
        refine RG.vl rfl rfl rfl (Ev.assign rfl rfl) ?_
        refine RG.done ?_
        refine QW.sub (S' := [(4, _)]) ⟨rfl, trivial⟩ ?_
        refine QW.then_ ?_
        refine CW.ret ?_
        refine QW.ret1 rfl rfl ?_
        have hB := (Ex.tr hB0 hE5)
        refine ⟨congrArg Value.bool ?_, hB⟩
        unfold hitL
        first
          | exact (decide_eq_false (fun h => by rcases h.1 with e | e <;> omega)).symm
          | exact (decide_eq_true ⟨by omega, .inl (binj.1 (by assumption))⟩).symm
          | exact decide_eq_decide.2 ⟨fun h => ⟨by omega, .inr (binj.1 h)⟩, fun h => by rcases h.2 with e | e; exact absurd (binj.2 e) (by assumption); exact binj.2 e⟩
      · refine RG.vl rfl rfl rfl (Ev.fld rfl rfl fld_30_2) ?_
        refine RG.vl rfl rfl rfl (Ev.ldAt rfl rfl Try.underlying9 rfl (hb1.cells) (rfl)) ?_
        refine RG.vl rfl rfl rfl (Ev.ld0 rfl rfl Try.underlying9 rfl ((h2.ext hE5).cells) (rfl)) ?_
        refine RG.vl rfl rfl rfl (Ev.eqS rfl rfl rfl) ?_
        refine RG.vl rfl rfl rfl (Ev.pickF rfl rfl rfl) ?_
        refine RG.vl rfl rfl rfl (Ev.pickT rfl rfl rfl) ?_
        refine RG.vl rfl rfl rfl (Ev.assign rfl rfl) ?_
        refine RG.done ?_
        refine QW.sub (S' := [(4, _)]) ⟨rfl, trivial⟩ ?_
        refine QW.then_ ?_
        refine CW.ret ?_
        refine QW.ret1 rfl rfl ?_
        have hB := (Ex.tr hB0 hE5)
        refine ⟨congrArg Value.bool ?_, hB⟩
        unfold hitL
        first
          | exact (decide_eq_false (fun h => by rcases h.1 with e | e <;> omega)).symm
          | exact (decide_eq_true ⟨by omega, .inl (binj.1 (by assumption))⟩).symm
          | exact decide_eq_decide.2 ⟨fun h => ⟨by omega, .inr (binj.1 h)⟩, fun h => by rcases h.2 with e | e; exact absurd (binj.2 e) (by assumption); exact binj.2 e⟩
    · refine RG.pass rfl rfl rfl ?_
      refine RG.pass rfl rfl rfl ?_
      refine RG.pass rfl rfl rfl ?_
      refine RG.pass rfl rfl rfl ?_
      refine RG.pass rfl rfl rfl ?_
      refine RG.pass rfl rfl rfl ?_
      refine RG.pass rfl rfl rfl ?_
      refine RG.pass rfl rfl rfl ?_
      refine RG.pass rfl rfl rfl ?_
      refine RG.pass rfl rfl rfl ?_
      refine RG.vl rfl rfl rfl (Ev.pickF rfl rfl rfl) ?_
      refine RG.vl rfl rfl rfl (Ev.assign rfl rfl) ?_
      refine RG.done ?_
      refine QW.sub (S' := [(4, _)]) ⟨rfl, trivial⟩ ?_
      refine QW.then_ ?_
      refine CW.ret ?_
      refine QW.ret1 rfl rfl ?_
      have hB := (Ex.tr hB0 hE5)
      refine ⟨congrArg Value.bool ?_, hB⟩
      unfold hitL
      first
        | exact (decide_eq_false (fun h => by rcases h.1 with e | e <;> omega)).symm
        | exact (decide_eq_true ⟨by omega, .inl (binj.1 (by assumption))⟩).symm
        | exact decide_eq_decide.2 ⟨fun h => ⟨by omega, .inr (binj.1 h)⟩, fun h => by rcases h.2 with e | e; exact absurd (binj.2 e) (by assumption); exact binj.2 e⟩

set_option maxRecDepth 100000 in
set_option maxHeartbeats 1000000 in
theorem short1_ret (r : Rw) (k : Nat) (s : List UInt8) (gK gT : Nat) (w : World) (h1 : Blk w gK 5 [.int .u8 (k : Int)]) (h2 : Blk w gT 9 [.string ⟨s.toArray⟩]) :
    Ret Try.prog 34 [.agg r.c.toArray, .pointer (some ⟨gK, 0, none⟩), .pointer (some ⟨gT, 0, none⟩)] w (fun v w' => v = .bool (hitS k s r) ∧ Ex w w') := by
  have hB0 : Ex w w := Ex.rfl_ _
  refine Ret.of Try.func34 rfl Try.ntmps34 rfl ?_
  refine CW.seq ?_
  refine CW.region ?_
  refine RG.box rfl rfl rfl rfl rfl (fun g1 w1 eg1 hx1 hb1 => ?_)
  have hle2 : w.heap.size ≤ g1 := by have := (Ex.rfl_ w).size; omega
  have hlt3 : gK < g1 := by have := Blk.lt h1; omega
  have hlt4 : gT < g1 := by have := Blk.lt h2; omega
  have hE5 := hx1
  refine RG.vl rfl rfl rfl (Ev.assign rfl rfl) ?_
  refine RG.done ?_
  refine QW.then_ ?_
  refine CW.seq ?_
  refine CW.region ?_
  refine RG.vl rfl rfl rfl (Ev.ld0 rfl rfl Try.underlying5 rfl ((h1.ext hE5).cells) (rfl)) ?_
  refine RG.vl rfl rfl rfl (Ev.eqI rfl rfl rfl) ?_
  refine RG.vl rfl rfl rfl (Ev.move rfl rfl) ?_
  refine RG.split (d := 7) rfl (fun hg6 => ?_) (fun hg6 => ?_)
  · refine RG.pass rfl rfl rfl ?_
    refine RG.pass rfl rfl rfl ?_
    refine RG.pass rfl rfl rfl ?_
    refine RG.pass rfl rfl rfl ?_
    refine RG.vl rfl rfl rfl (Ev.pickT rfl rfl rfl) ?_
    refine RG.vl rfl rfl rfl (Ev.move rfl rfl) ?_
    refine RG.vl rfl rfl rfl (Ev.fld rfl rfl fld_30_1) ?_
    refine RG.vl rfl rfl rfl (Ev.ldAt rfl rfl Try.underlying9 rfl (hb1.cells) (rfl)) ?_
    refine RG.vl rfl rfl rfl (Ev.ld0 rfl rfl Try.underlying9 rfl ((h2.ext hE5).cells) (rfl)) ?_
    refine RG.vl rfl rfl rfl (Ev.eqS rfl rfl rfl) ?_
    refine RG.vl rfl rfl rfl (Ev.pickT rfl rfl rfl) ?_
    refine RG.vl rfl rfl rfl (Ev.assign rfl rfl) ?_
    refine RG.done ?_
    refine QW.sub (S' := [(4, _)]) ⟨rfl, trivial⟩ ?_
    refine QW.then_ ?_
    refine CW.ret ?_
    refine QW.ret1 rfl rfl ?_
    have hB := (Ex.tr hB0 hE5)
    refine ⟨congrArg Value.bool ?_, hB⟩
    unfold hitS
    first
      | exact (decide_eq_false (fun h => by rcases h.1 with e | e <;> omega)).symm
      | exact decide_eq_decide.2 ⟨fun h => ⟨by omega, binj.1 h⟩, fun h => binj.2 h.2⟩
  · refine RG.vl rfl rfl rfl (Ev.fld rfl rfl fld_30_0) ?_
    refine RG.vl rfl rfl rfl (Ev.ldAt rfl rfl Try.underlying5 rfl (hb1.cells) (rfl)) ?_
    refine RG.vl rfl rfl rfl (Ev.ld0 rfl rfl Try.underlying5 rfl ((h1.ext hE5).cells) (rfl)) ?_
    refine RG.vl rfl rfl rfl (Ev.eqI rfl rfl rfl) ?_
    refine RG.vl rfl rfl rfl (Ev.pickF rfl rfl rfl) ?_
    refine RG.vl rfl rfl rfl (Ev.move rfl rfl) ?_
    refine RG.split (d := 13) rfl (fun hg7 => ?_) (fun hg7 => ?_)
    · refine RG.vl rfl rfl rfl (Ev.fld rfl rfl fld_30_1) ?_
      refine RG.vl rfl rfl rfl (Ev.ldAt rfl rfl Try.underlying9 rfl (hb1.cells) (rfl)) ?_
      refine RG.vl rfl rfl rfl (Ev.ld0 rfl rfl Try.underlying9 rfl ((h2.ext hE5).cells) (rfl)) ?_
      refine RG.vl rfl rfl rfl (Ev.eqS rfl rfl rfl) ?_
      refine RG.vl rfl rfl rfl (Ev.pickT rfl rfl rfl) ?_
      refine RG.vl rfl rfl rfl (Ev.assign rfl rfl) ?_
      refine RG.done ?_
      refine QW.sub (S' := [(4, _)]) ⟨rfl, trivial⟩ ?_
      refine QW.then_ ?_
      refine CW.ret ?_
      refine QW.ret1 rfl rfl ?_
      have hB := (Ex.tr hB0 hE5)
      refine ⟨congrArg Value.bool ?_, hB⟩
      unfold hitS
      first
        | exact (decide_eq_false (fun h => by rcases h.1 with e | e <;> omega)).symm
        | exact decide_eq_decide.2 ⟨fun h => ⟨by omega, binj.1 h⟩, fun h => binj.2 h.2⟩
    · refine RG.pass rfl rfl rfl ?_
      refine RG.pass rfl rfl rfl ?_
      refine RG.pass rfl rfl rfl ?_
      refine RG.pass rfl rfl rfl ?_
      refine RG.vl rfl rfl rfl (Ev.pickF rfl rfl rfl) ?_
      refine RG.vl rfl rfl rfl (Ev.assign rfl rfl) ?_
      refine RG.done ?_
      refine QW.sub (S' := [(4, _)]) ⟨rfl, trivial⟩ ?_
      refine QW.then_ ?_
      refine CW.ret ?_
      refine QW.ret1 rfl rfl ?_
      have hB := (Ex.tr hB0 hE5)
      refine ⟨congrArg Value.bool ?_, hB⟩
      unfold hitS
      first
        | exact (decide_eq_false (fun h => by rcases h.1 with e | e <;> omega)).symm
        | exact decide_eq_decide.2 ⟨fun h => ⟨by omega, binj.1 h⟩, fun h => binj.2 h.2⟩

end Go.Proofs.Ytehlnkhbbnddmaa
