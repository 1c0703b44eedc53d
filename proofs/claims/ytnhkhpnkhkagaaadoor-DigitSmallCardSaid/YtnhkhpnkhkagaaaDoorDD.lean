/- Walks (DD). Written by program. -/
import Derived.Test.YtnhkhpnkhkagaaaDoorT
import Derived.Test.YtnhkhpnkhkagaaaDoorDC
namespace Go.Proofs.YtnhkhpnkhkagaaaDoor
open Go.RowKit
set_option maxRecDepth 100000 in
set_option maxHeartbeats 1000000 in
theorem passes_ret (k : Nat) (wv vv : Value) (ws : List Int) (vs : List Nat) (w : World) (hws : RdL w 1 encI wv ws) (hv : RdL w 1 encZ vv vs) (hr : rightD k ws = true) (hlen : vs.length ≤ 100) (hvs : ∀ x ∈ vs, x ≤ mostD k) :
    Ret Tryd.prog 40 [.agg #[.int .u8 (k : Int), wv], vv] w (fun v w' => v = .bool (passD k ws vs) ∧ Ex w w') := by
  obtain ⟨wA, wC, rfl⟩ := hws.shape
  obtain ⟨vA, vC, rfl⟩ := hv.shape
  have hB0 : Ex w w := Ex.rfl_ _
  refine Ret.of Tryd.func40 rfl Tryd.ntmps40 rfl ?_
  refine CW.seq ?_
  refine CW.region ?_
  refine RG.box rfl rfl rfl rfl rfl (fun g1 w1 eg1 hx1 hb1 => ?_)
  have hle2 : w.heap.size ≤ g1 := by have := (Ex.rfl_ w).size; omega
  have hE3 := hx1
  refine RG.vl rfl rfl rfl (Ev.assign rfl rfl) ?_
  refine RG.done ?_
  refine QW.then_ ?_
  refine CW.seq ?_
  refine CW.region ?_
  refine RG.mkMap (fun i : Int => Value.int .u8 i) rfl rfl rfl rfl (fun g4 w4 eg4 hx4 hb4 => ?_)
  have hle5 : w.heap.size ≤ g4 := by have := hE3.size; omega
  have hle6 : w1.heap.size ≤ g4 := by have := (Ex.rfl_ w1).size; omega
  have hlt7 : g1 < g4 := by have := Blk.lt hb1; omega
  replace hE3 := Ex.tr hE3 hx4
  have hE8 := hx4
  refine RG.mapPut keyU rfl rfl (.inr rfl) rfl rfl rfl Tryd.underlying85 Tryd.underlying5 hb4 (rfl) (fun wm9 hwm9 hbwm9 => ?_)
  replace hE3 := Wr.below hE3 hwm9 hle5
  replace hE8 := Wr.below hE8 hwm9 hle6
  refine RG.mapPut keyU rfl rfl (.inr rfl) rfl rfl rfl Tryd.underlying85 Tryd.underlying5 hbwm9 (rfl) (fun wm10 hwm10 hbwm10 => ?_)
  replace hE3 := Wr.below hE3 hwm10 hle5
  replace hE8 := Wr.below hE8 hwm10 hle6
  refine RG.mapPut keyU rfl rfl (.inr rfl) rfl rfl rfl Tryd.underlying85 Tryd.underlying5 hbwm10 (rfl) (fun wm11 hwm11 hbwm11 => ?_)
  replace hE3 := Wr.below hE3 hwm11 hle5
  replace hE8 := Wr.below hE8 hwm11 hle6
  refine RG.mapPut keyU rfl rfl (.inr rfl) rfl rfl rfl Tryd.underlying85 Tryd.underlying5 hbwm11 (rfl) (fun wm12 hwm12 hbwm12 => ?_)
  replace hE3 := Wr.below hE3 hwm12 hle5
  replace hE8 := Wr.below hE8 hwm12 hle6
  refine RG.vl rfl rfl rfl (Ev.move rfl rfl) ?_
  refine RG.vl rfl rfl rfl (Ev.assign rfl rfl) ?_
  refine RG.done ?_
  refine QW.then_ ?_
  refine CW.seq ?_
  rcases right_kind hr with rfl | rfl | rfl | rfl
  · refine CW.region ?_
    refine RG.vl rfl rfl rfl (Ev.move rfl rfl) ?_
    refine RG.vl rfl rfl rfl (Ev.fld rfl rfl fld_24_0) ?_
    refine RG.vl rfl rfl rfl (Ev.ldAt rfl rfl Tryd.underlying5 rfl ((hb1.ext hE8).cells) (rfl)) ?_
    refine RG.vl rfl rfl rfl ((Ev.lookOk keyU rfl rfl rfl hbwm12 Tryd.underlying85 Tryd.underlying5 inf_84).conv ((show _ = Value.tuple #[.func (.func 52) #[] #[], .bool true] from rfl))) ?_
    refine RG.vl rfl rfl rfl (Ev.move rfl rfl) ?_
    refine RG.vl rfl rfl rfl (Ev.extract rfl rfl rfl) ?_
    refine RG.vl rfl rfl rfl (Ev.extract rfl rfl rfl) ?_
    refine RG.vl rfl rfl rfl (Ev.assign rfl rfl) ?_
    refine RG.vl rfl rfl rfl (Ev.assign rfl rfl) ?_
    refine RG.done ?_
    refine QW.sub (S' := [(1, _), (2, _), (4, _), (6, _), (7, _)]) ⟨rfl, rfl, rfl, rfl, rfl, trivial⟩ ?_
    refine QW.then_ ?_
    refine CW.seq ?_
    refine CW.region ?_
    refine RG.vl rfl rfl rfl (Ev.move rfl rfl) ?_
    refine RG.vl rfl rfl rfl (Ev.move rfl rfl) ?_
    refine RG.vl rfl rfl rfl (Ev.move rfl rfl) ?_
    refine RG.vl rfl rfl rfl (Ev.ldAgg rfl rfl Tryd.underlying24 rfl sz_24 rfl ((hb1.ext hE8).cells)) ?_
    refine RG.vl rfl rfl rfl (Ev.move rfl rfl) ?_
    refine RG.call rfl rfl rfl rfl rfl rfl rfl en_52 (mod10_ret 1 _ _ ws vs _ (hws.ext hE3) (hv.ext hE3) (right_ws hr (.inl rfl)).1 (right_ws10 hr (.inl rfl)) hlen (fun x h => by have := hvs x h; have : mostD 1 = 9 := rfl; omega)) ?_
    rintro _ w13 ⟨rfl, hx13⟩
    replace hE3 := Ex.tr hE3 hx13
    replace hE8 := Ex.tr hE8 hx13
    have hE14 := hx13
    refine RG.vl rfl rfl rfl (Ev.pickT rfl rfl rfl) ?_
    refine RG.vl rfl rfl rfl (Ev.assign rfl rfl) ?_
    refine RG.done ?_
    refine QW.then_ ?_
    refine CW.ret ?_
    refine QW.ret1 rfl rfl ?_
    have hB := (Ex.tr hB0 hE3)
    exact ⟨rfl, hB⟩
  · refine CW.region ?_
    refine RG.vl rfl rfl rfl (Ev.move rfl rfl) ?_
    refine RG.vl rfl rfl rfl (Ev.fld rfl rfl fld_24_0) ?_
    refine RG.vl rfl rfl rfl (Ev.ldAt rfl rfl Tryd.underlying5 rfl ((hb1.ext hE8).cells) (rfl)) ?_
    refine RG.vl rfl rfl rfl ((Ev.lookOk keyU rfl rfl rfl hbwm12 Tryd.underlying85 Tryd.underlying5 inf_84).conv ((show _ = Value.tuple #[.func (.func 53) #[] #[], .bool true] from rfl))) ?_
    refine RG.vl rfl rfl rfl (Ev.move rfl rfl) ?_
    refine RG.vl rfl rfl rfl (Ev.extract rfl rfl rfl) ?_
    refine RG.vl rfl rfl rfl (Ev.extract rfl rfl rfl) ?_
    refine RG.vl rfl rfl rfl (Ev.assign rfl rfl) ?_
    refine RG.vl rfl rfl rfl (Ev.assign rfl rfl) ?_
    refine RG.done ?_
    refine QW.sub (S' := [(1, _), (2, _), (4, _), (6, _), (7, _)]) ⟨rfl, rfl, rfl, rfl, rfl, trivial⟩ ?_
    refine QW.then_ ?_
    refine CW.seq ?_
    refine CW.region ?_
    refine RG.vl rfl rfl rfl (Ev.move rfl rfl) ?_
    refine RG.vl rfl rfl rfl (Ev.move rfl rfl) ?_
    refine RG.vl rfl rfl rfl (Ev.move rfl rfl) ?_
    refine RG.vl rfl rfl rfl (Ev.ldAgg rfl rfl Tryd.underlying24 rfl sz_24 rfl ((hb1.ext hE8).cells)) ?_
    refine RG.vl rfl rfl rfl (Ev.move rfl rfl) ?_
    refine RG.call rfl rfl rfl rfl rfl rfl rfl en_53 (mod11_ret 2 _ _ ws vs _ (hws.ext hE3) (hv.ext hE3) (right_ws hr (.inr rfl)).1 (right_ws10 hr (.inr rfl)) hlen (fun x h => by have := hvs x h; have : mostD 2 = 10 := rfl; omega)) ?_
    rintro _ w15 ⟨rfl, hx15⟩
    replace hE3 := Ex.tr hE3 hx15
    replace hE8 := Ex.tr hE8 hx15
    have hE16 := hx15
    refine RG.vl rfl rfl rfl (Ev.pickT rfl rfl rfl) ?_
    refine RG.vl rfl rfl rfl (Ev.assign rfl rfl) ?_
    refine RG.done ?_
    refine QW.then_ ?_
    refine CW.ret ?_
    refine QW.ret1 rfl rfl ?_
    have hB := (Ex.tr hB0 hE3)
    exact ⟨rfl, hB⟩
  · refine CW.region ?_
    refine RG.vl rfl rfl rfl (Ev.move rfl rfl) ?_
    refine RG.vl rfl rfl rfl (Ev.fld rfl rfl fld_24_0) ?_
    refine RG.vl rfl rfl rfl (Ev.ldAt rfl rfl Tryd.underlying5 rfl ((hb1.ext hE8).cells) (rfl)) ?_
    refine RG.vl rfl rfl rfl ((Ev.lookOk keyU rfl rfl rfl hbwm12 Tryd.underlying85 Tryd.underlying5 inf_84).conv ((show _ = Value.tuple #[.func (.func 54) #[] #[], .bool true] from rfl))) ?_
    refine RG.vl rfl rfl rfl (Ev.move rfl rfl) ?_
    refine RG.vl rfl rfl rfl (Ev.extract rfl rfl rfl) ?_
    refine RG.vl rfl rfl rfl (Ev.extract rfl rfl rfl) ?_
    refine RG.vl rfl rfl rfl (Ev.assign rfl rfl) ?_
    refine RG.vl rfl rfl rfl (Ev.assign rfl rfl) ?_
    refine RG.done ?_
    refine QW.sub (S' := [(1, _), (2, _), (4, _), (6, _), (7, _)]) ⟨rfl, rfl, rfl, rfl, rfl, trivial⟩ ?_
    refine QW.then_ ?_
    refine CW.seq ?_
    refine CW.region ?_
    refine RG.vl rfl rfl rfl (Ev.move rfl rfl) ?_
    refine RG.vl rfl rfl rfl (Ev.move rfl rfl) ?_
    refine RG.vl rfl rfl rfl (Ev.move rfl rfl) ?_
    refine RG.vl rfl rfl rfl (Ev.ldAgg rfl rfl Tryd.underlying24 rfl sz_24 rfl ((hb1.ext hE8).cells)) ?_
    refine RG.vl rfl rfl rfl (Ev.move rfl rfl) ?_
    refine RG.call rfl rfl rfl rfl rfl rfl rfl en_54 (luhn_ret 3 _ _ ws vs _ (hws.ext hE3) (hv.ext hE3) hlen (fun x h => by have := hvs x h; have : mostD 3 = 9 := rfl; omega)) ?_
    rintro _ w17 ⟨rfl, hx17⟩
    replace hE3 := Ex.tr hE3 hx17
    replace hE8 := Ex.tr hE8 hx17
    have hE18 := hx17
    refine RG.vl rfl rfl rfl (Ev.pickT rfl rfl rfl) ?_
    refine RG.vl rfl rfl rfl (Ev.assign rfl rfl) ?_
    refine RG.done ?_
    refine QW.then_ ?_
    refine CW.ret ?_
    refine QW.ret1 rfl rfl ?_
    have hB := (Ex.tr hB0 hE3)
    exact ⟨rfl, hB⟩
  · refine CW.region ?_
    refine RG.vl rfl rfl rfl (Ev.move rfl rfl) ?_
    refine RG.vl rfl rfl rfl (Ev.fld rfl rfl fld_24_0) ?_
    refine RG.vl rfl rfl rfl (Ev.ldAt rfl rfl Tryd.underlying5 rfl ((hb1.ext hE8).cells) (rfl)) ?_
    refine RG.vl rfl rfl rfl ((Ev.lookOk keyU rfl rfl rfl hbwm12 Tryd.underlying85 Tryd.underlying5 inf_84).conv ((show _ = Value.tuple #[.func (.func 55) #[] #[], .bool true] from rfl))) ?_
    refine RG.vl rfl rfl rfl (Ev.move rfl rfl) ?_
    refine RG.vl rfl rfl rfl (Ev.extract rfl rfl rfl) ?_
    refine RG.vl rfl rfl rfl (Ev.extract rfl rfl rfl) ?_
    refine RG.vl rfl rfl rfl (Ev.assign rfl rfl) ?_
    refine RG.vl rfl rfl rfl (Ev.assign rfl rfl) ?_
    refine RG.done ?_
    refine QW.sub (S' := [(1, _), (2, _), (4, _), (6, _), (7, _)]) ⟨rfl, rfl, rfl, rfl, rfl, trivial⟩ ?_
    refine QW.then_ ?_
    refine CW.seq ?_
    refine CW.region ?_
    refine RG.vl rfl rfl rfl (Ev.move rfl rfl) ?_
    refine RG.vl rfl rfl rfl (Ev.move rfl rfl) ?_
    refine RG.vl rfl rfl rfl (Ev.move rfl rfl) ?_
    refine RG.vl rfl rfl rfl (Ev.ldAgg rfl rfl Tryd.underlying24 rfl sz_24 rfl ((hb1.ext hE8).cells)) ?_
    refine RG.vl rfl rfl rfl (Ev.move rfl rfl) ?_
    refine RG.call rfl rfl rfl rfl rfl rfl rfl en_55 (perm_ret 4 _ _ ws vs _ (hws.ext hE3) (hv.ext hE3) hlen (fun x h => by have := hvs x h; have : mostD 4 = 9 := rfl; omega)) ?_
    rintro _ w19 ⟨rfl, hx19⟩
    replace hE3 := Ex.tr hE3 hx19
    replace hE8 := Ex.tr hE8 hx19
    have hE20 := hx19
    refine RG.vl rfl rfl rfl (Ev.pickT rfl rfl rfl) ?_
    refine RG.vl rfl rfl rfl (Ev.assign rfl rfl) ?_
    refine RG.done ?_
    refine QW.then_ ?_
    refine CW.ret ?_
    refine QW.ret1 rfl rfl ?_
    have hB := (Ex.tr hB0 hE3)
    exact ⟨rfl, hB⟩

end Go.Proofs.YtnhkhpnkhkagaaaDoor
