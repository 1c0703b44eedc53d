/- Walks (ST). Written by program. -/
import Derived.Test.YtjhgihgggofocaaT
import Derived.Test.YtjhgihgggofocaaSS
namespace Go.Proofs.Ytjhgihgggofocaa
open Go.RowKit
theorem s19_min (l : List Nat) (n : Nat) : (l.take (min l.length n)).drop 0 = l.take n := by rw [List.drop_zero, Nat.min_comm, ← List.take_take, List.take_length]

set_option maxRecDepth 100000 in
set_option maxHeartbeats 2000000 in
theorem coded_ret (u : Value) (l : List Nat) (w : World) (hl : RdL w 1 encN u l) (hb : ∀ c ∈ l, c < 256) :
    Ret Try.prog 21 [u] w (fun v w' => ∃ r c, v = .tuple #[r, .bool true] ∧ Own w' w.heap.size 5 1 encN r c ∧ IsEnc (dataL l) c ∧ Ex w w') := by
  obtain ⟨uA, uC, rfl⟩ := hl.shape
  have hB0 : Ex w w := Ex.rfl_ _
  refine Ret.of Try.func21 rfl Try.ntmps21 rfl ?_
  refine CW.seq ?_
  refine CW.region ?_
  refine RG.vl rfl rfl rfl (Ev.assign rfl rfl) ?_
  refine RG.vl rfl rfl rfl (Ev.assign rfl rfl) ?_
  refine RG.done ?_
  refine QW.then_ ?_
  refine CW.seq ?_
  refine CW.region ?_
  refine RG.vl rfl rfl rfl (Ev.assign rfl rfl) ?_
  refine RG.done ?_
  refine QW.then_ ?_
  refine CW.seq ?_
  refine CW.seq ?_
  refine CW.region ?_
  refine RG.vl rfl rfl rfl (Ev.move rfl rfl) ?_
  refine RG.vl rfl rfl rfl (Ev.move rfl rfl) ?_
  refine RG.vl rfl rfl rfl (Ev.lenL rfl rfl rfl Try.underlying22 (hl)) ?_
  refine RG.vl rfl rfl rfl ((Ev.min2 rfl rfl rfl rfl).conv (congrArg (Value.int .i64) (show min ((l.length : Nat) : Int) 59 = ((min l.length 59 : Nat) : Int) by omega))) ?_
  refine RG.sliceL (L := 0) (H := min l.length 59) _ rfl rfl rfl rfl rfl Try.underlying22 sz_5 (hl) (.inl ⟨rfl, rfl⟩) (.inr ⟨_, _, _, rfl, rfl, by omega⟩) (by omega) (by omega) (fun v1 hrv1 => ?_)
  rw [s19_min] at hrv1
  have hTl : (l.take 59).length ≤ 59 := by rw [List.length_take]; omega
  obtain ⟨T, hT⟩ : ∃ T, T = l.take 59 := ⟨_, rfl⟩
  rw [← hT] at hrv1 hTl
  refine RG.vl rfl rfl rfl (Ev.lenL rfl rfl rfl Try.underlying22 (hrv1)) ?_
  refine RG.vl rfl rfl rfl (Ev.move rfl rfl) ?_
  refine RG.done ?_
  refine QW.then_ ?_
  refine CW.block ?_
  refine CW.loop2 [(2, _), (3, _), (13, _), (14, _)] ⟨rfl, rfl, rfl, rfl, trivial⟩ (fun (i : Nat) (u : Value) => [(15, .int .i64 (i : Int)), (4, u)]) (fun i u w' => (i ≤ T.length ∧ Own w' w.heap.size 5 1 encN u ((T.take i).map fun c => c % 64)) ∧ Ex w w') (fun i u => T.length - i) (0) (.slice none 0 0) ⟨rfl, rfl, trivial⟩ ⟨⟨Nat.zero_le _, Own.nil_ _ _ _ _ _⟩, hB0⟩ ?_
  rintro i u wl2 ⟨⟨hi, hou⟩, hxwl2⟩
  refine CW.sub (S' := [(15, _), (4, _), (2, _), (3, _), (13, _), (14, _)]) ⟨rfl, rfl, rfl, rfl, rfl, rfl, trivial⟩ ?_
  have hil : ((T.take i).map (fun c => c % 64)).length = i := by rw [List.length_map, List.length_take]; omega
  refine CW.seq ?_
  refine CW.region ?_
  refine RG.vl rfl rfl rfl (Ev.lss rfl rfl rfl) ?_
  refine RG.done ?_
  refine QW.then_ ?_
  refine CW.seq ?_
  refine CW.condP rfl (fun hc3 => ?_) (fun hc3 => ?_)
  · refine CW.skip ?_
    refine QW.then_ ?_
    refine CW.seq ?_
    refine CW.block ?_
    refine CW.seq ?_
    obtain ⟨x, hx⟩ : ∃ x, T[i]? = some x := ⟨_, List.getElem?_eq_getElem (by omega)⟩
    have hx8 := hb x (List.mem_of_mem_take (by rw [← hT]; exact List.mem_of_getElem? hx))
    refine CW.region ?_
    refine RG.idxL rfl rfl rfl rfl rfl rfl Try.underlying22 sz_5 ((hrv1.ext hxwl2)) (hx) (fun p4 hp4b hp4 => ?_)
    refine RG.vl rfl rfl rfl (Ev.ld0 rfl rfl Try.underlying5 rfl (hp4) (rfl)) ?_
    refine RG.vl rfl rfl rfl (Ev.assign rfl rfl) ?_
    refine RG.done ?_
    refine QW.then_ ?_
    refine CW.region ?_
    refine RG.vl rfl rfl rfl (Ev.move rfl rfl) ?_
    refine RG.vl rfl rfl rfl (Ev.move rfl rfl) ?_
    refine RG.vl rfl rfl rfl ((Ev.rem8 rfl rfl rfl (by omega)).conv (congrArg (Value.int .u8) (show (x : Int) % 64 = ((x % 64 : Nat) : Int) by omega))) ?_
    refine RG.litO (os := [.tmp 21]) (enc := encN) ([x % 64]) rfl rfl rfl rfl rfl rfl rfl Try.underlying22 inf_5 rfl rfl rfl rfl rfl encN_len rfl rfl (fun v5 wk6 hxwk6 hown7 hnew8 => ?_)
    have hsep9 : Sep v5 _ := Sep.of_new hou hnew8
    replace hxwl2 := Ex.tr hxwl2 hxwk6
    have hE10 := hxwk6
    refine RG.appO rfl rfl rfl rfl rfl rfl rfl Try.underlying22 inf_5 rfl rfl encN_len (fun _ => rfl) (Own.ext hou hE10) ((hown7.rdl encN_len)) (by show _ + 1 ≤ maxLen; simp only [maxLen]; omega) (by show (_ + 1) * _ ≤ _; omega) (hxwl2.size) (fun v11 wa12 hown13 hgr14 hat15 => ?_)
    have hsep17 := Sep.app (Sep.symm hsep9) hown7 hat15
    have hown16 := Own.grown hown7 hgr14 (fun k a b => (Sep.symm hsep9) k b a)
    replace hxwl2 := own_block (Own.ext hou hE10) hxwl2 hgr14 (Nat.le_refl _) hxwl2.size
    refine RG.vl rfl rfl rfl (Ev.assign rfl rfl) ?_
    refine RG.done ?_
    refine QW.blockN ?_
    refine QW.then_ ?_
    refine CW.region ?_
    refine RG.vl rfl rfl rfl (Ev.addI rfl rfl rfl (by omega)) ?_
    refine RG.vl rfl rfl rfl (Ev.move rfl rfl) ?_
    refine RG.done ?_
    refine QW.round2 (i + 1) (v11) ⟨rfl, rfl, trivial⟩ ⟨rfl, rfl, rfl, rfl, trivial⟩ ⟨⟨by omega, by rw [List.take_add_one, hx, Option.toList_some, List.map_append, List.map_singleton]; exact hown13⟩, (Ex.tr hB0 hxwl2)⟩ (by omega)
  · refine CW.exit ?_
    refine QW.thenExit ?_
    refine QW.thenExit ?_
    refine QW.blockHit ?_
    refine QW.then_ ?_
    refine CW.seq ?_
    refine CW.seq ?_
    obtain rfl : i = T.length := by omega
    rw [List.take_length] at hou
    have hml : (T.map (fun c => c % 64)).length = T.length := List.length_map ..
    refine CW.region ?_
    refine RG.vl rfl rfl rfl (Ev.move rfl rfl) ?_
    refine RG.vl rfl rfl rfl (Ev.lenL rfl rfl rfl Try.underlying22 ((hou.rdl encN_len))) ?_
    refine RG.vl rfl rfl rfl (Ev.eqI rfl rfl rfl) ?_
    refine RG.done ?_
    refine QW.then_ ?_
    refine CW.condP rfl (fun hc18 => ?_) (fun hc18 => ?_)
    · refine CW.region ?_
      refine RG.litO (os := [_]) (enc := encN) ([0]) rfl rfl rfl rfl rfl rfl rfl Try.underlying22 inf_5 rfl rfl rfl rfl rfl encN_len rfl rfl (fun v19 wk20 hxwk20 hown21 hnew22 => ?_)
      have hsep23 : Sep v19 _ := Sep.of_new hou hnew22
      replace hxwl2 := Ex.tr hxwl2 hxwk20
      have hE24 := hxwk20
      refine RG.vl rfl rfl rfl (Ev.assign rfl rfl) ?_
      refine RG.done ?_
      refine QW.then_ ?_
      refine CW.seq ?_
      have hdl : dataL l = [0] := by unfold dataL; rw [if_pos (by unfold elsOf; rw [← hT, List.eq_nil_of_length_eq_zero (show T.length = 0 by omega)]; rfl)]
      have hdX : Own wk20 wl2.heap.size 5 1 encN v19 (dataL l) := by rw [hdl]; exact hown21
      obtain ⟨X, hX⟩ : ∃ X, X = dataL l := ⟨_, rfl⟩
      have hX1 := dataL_len l
      have hok := dataL_ok l
      rw [← hX] at hdX hX1 hok
      refine CW.region ?_
      refine RG.vl rfl rfl rfl (Ev.move rfl rfl) ?_
      refine RG.call rfl rfl rfl rfl rfl rfl rfl en_23 (encOk_enc _ _ X ((hdX.rdl encN_len)) hok) ?_
      have hpre25 := (Ex.tr hB0 hxwl2)
      rintro _ w25 ⟨r, c, rfl, hoc, henc, hx25⟩
      have hsep26 : Sep r _ := Sep.of_new (Own.ext hou hE24) (fun k h => Own.ge hoc h)
      have hsep27 : Sep r _ := Sep.of_new hdX (fun k h => Own.ge hoc h)
      replace hoc := Own.low (B' := w.heap.size) hoc (by have := (Ex.tr hB0 hxwl2).size; omega)
      replace hxwl2 := Ex.tr hxwl2 hx25
      replace hE24 := Ex.tr hE24 hx25
      have hE28 := hx25
      refine RG.vl rfl rfl rfl (Ev.move rfl rfl) ?_
      refine RG.vl rfl rfl rfl (Ev.extract rfl rfl rfl) ?_
      refine RG.vl rfl rfl rfl (Ev.extract rfl rfl rfl) ?_
      refine RG.vl rfl rfl rfl (Ev.assign rfl rfl) ?_
      refine RG.vl rfl rfl rfl (Ev.assign rfl rfl) ?_
      refine RG.done ?_
      refine QW.then_ ?_
      refine CW.seq ?_
      have hcl := henc.len
      refine CW.region ?_
      refine RG.vl rfl rfl rfl (Ev.move rfl rfl) ?_
      refine RG.vl rfl rfl rfl (Ev.move rfl rfl) ?_
      refine RG.vl rfl rfl rfl (Ev.isT (Ev.eqI rfl rfl rfl) (rfl)) ?_
      refine RG.vl rfl rfl rfl (Ev.move rfl rfl) ?_
      refine RG.vl rfl rfl rfl (Ev.move rfl rfl) ?_
      refine RG.vl rfl rfl rfl (Ev.lenL rfl rfl rfl Try.underlying22 ((hoc.rdl encN_len))) ?_
      refine RG.vl rfl rfl rfl (Ev.move rfl rfl) ?_
      refine RG.vl rfl rfl rfl (Ev.lenL rfl rfl rfl Try.underlying22 (((Own.ext hdX hE28).rdl encN_len))) ?_
      refine RG.vl rfl rfl rfl (Ev.addI rfl rfl rfl (by omega)) ?_
      refine RG.vl rfl rfl rfl (Ev.isT (Ev.eqI rfl rfl rfl) (by omega)) ?_
      refine RG.vl rfl rfl rfl (Ev.pickT rfl rfl rfl) ?_
      refine RG.vl rfl rfl rfl (Ev.move rfl rfl) ?_
      refine RG.vl rfl rfl rfl (Ev.move rfl rfl) ?_
      refine RG.vl rfl rfl rfl (Ev.move rfl rfl) ?_
      refine RG.vl rfl rfl rfl (Ev.lenL rfl rfl rfl Try.underlying22 (((Own.ext hdX hE28).rdl encN_len))) ?_
      refine RG.sliceL (L := 0) (H := X.length) _ rfl rfl rfl rfl rfl Try.underlying22 sz_5 ((hoc.rdl encN_len)) (.inl ⟨rfl, rfl⟩) (.inr ⟨_, _, _, rfl, rfl, by omega⟩) (by omega) (by omega) (fun v29 hrv29 => ?_)
      rw [List.drop_zero, henc.pre] at hrv29
      refine RG.vl rfl rfl rfl (Ev.move rfl rfl) ?_
      refine RG.call rfl rfl rfl rfl rfl rfl rfl en_19 (sameBt_ret _ _ X _ (hrv29) (((Own.ext hdX hE28).rdl encN_len)) (by omega)) ?_
      rintro _ w30 ⟨rfl, hx30⟩
      replace hxwl2 := Ex.tr hxwl2 hx30
      replace hE24 := Ex.tr hE24 hx30
      replace hE28 := Ex.tr hE28 hx30
      have hE31 := hx30
      refine RG.vl rfl rfl rfl (Ev.pickT rfl rfl rfl) ?_
      refine RG.vl rfl rfl rfl (Ev.assign rfl rfl) ?_
      refine RG.vl rfl rfl rfl (Ev.assign rfl rfl) ?_
      refine RG.done ?_
      refine QW.sub (S' := [(2, _), (3, _)]) ⟨rfl, rfl, trivial⟩ ?_
      refine QW.then_ ?_
      refine CW.ret ?_
      refine QW.ret2 rfl rfl rfl ?_
      have hB := (Ex.tr hB0 hxwl2)
      exact ⟨r, c, rfl, (Own.ext hoc hE31), by rw [← hX]; exact henc, hB⟩
    · refine CW.skip ?_
      refine QW.then_ ?_
      refine CW.seq ?_
      have hdl : dataL l = T.map (fun c => c % 64) := by
        have he : elsOf l 59 = T.map (fun c => c % 64) := by unfold elsOf; rw [← hT]
        unfold dataL
        rw [he, if_neg (fun e => by have := congrArg List.length e; rw [List.length_map] at this; simp only [List.length_nil] at this; omega)]
      have hdX : Own wl2 w.heap.size 5 1 encN u (dataL l) := by rw [hdl]; exact hou
      obtain ⟨X, hX⟩ : ∃ X, X = dataL l := ⟨_, rfl⟩
      have hX1 := dataL_len l
      have hok := dataL_ok l
      rw [← hX] at hdX hX1 hok
      refine CW.region ?_
      refine RG.vl rfl rfl rfl (Ev.move rfl rfl) ?_
      refine RG.call rfl rfl rfl rfl rfl rfl rfl en_23 (encOk_enc _ _ X ((hdX.rdl encN_len)) hok) ?_
      have hpre32 := (Ex.tr hB0 hxwl2)
      rintro _ w32 ⟨r, c, rfl, hoc, henc, hx32⟩
      have hsep33 : Sep r _ := Sep.of_new hdX (fun k h => Own.ge hoc h)
      replace hoc := Own.low (B' := w.heap.size) hoc (by have := (Ex.tr hB0 hxwl2).size; omega)
      replace hxwl2 := Ex.tr hxwl2 hx32
      have hE34 := hx32
      refine RG.vl rfl rfl rfl (Ev.move rfl rfl) ?_
      refine RG.vl rfl rfl rfl (Ev.extract rfl rfl rfl) ?_
      refine RG.vl rfl rfl rfl (Ev.extract rfl rfl rfl) ?_
      refine RG.vl rfl rfl rfl (Ev.assign rfl rfl) ?_
      refine RG.vl rfl rfl rfl (Ev.assign rfl rfl) ?_
      refine RG.done ?_
      refine QW.then_ ?_
      refine CW.seq ?_
      have hcl := henc.len
      refine CW.region ?_
      refine RG.vl rfl rfl rfl (Ev.move rfl rfl) ?_
      refine RG.vl rfl rfl rfl (Ev.move rfl rfl) ?_
      refine RG.vl rfl rfl rfl (Ev.isT (Ev.eqI rfl rfl rfl) (rfl)) ?_
      refine RG.vl rfl rfl rfl (Ev.move rfl rfl) ?_
      refine RG.vl rfl rfl rfl (Ev.move rfl rfl) ?_
      refine RG.vl rfl rfl rfl (Ev.lenL rfl rfl rfl Try.underlying22 ((hoc.rdl encN_len))) ?_
      refine RG.vl rfl rfl rfl (Ev.move rfl rfl) ?_
      refine RG.vl rfl rfl rfl (Ev.lenL rfl rfl rfl Try.underlying22 (((Own.ext hdX hE34).rdl encN_len))) ?_
      refine RG.vl rfl rfl rfl (Ev.addI rfl rfl rfl (by omega)) ?_
      refine RG.vl rfl rfl rfl (Ev.isT (Ev.eqI rfl rfl rfl) (by omega)) ?_
      refine RG.vl rfl rfl rfl (Ev.pickT rfl rfl rfl) ?_
      refine RG.vl rfl rfl rfl (Ev.move rfl rfl) ?_
      refine RG.vl rfl rfl rfl (Ev.move rfl rfl) ?_
      refine RG.vl rfl rfl rfl (Ev.move rfl rfl) ?_
      refine RG.vl rfl rfl rfl (Ev.lenL rfl rfl rfl Try.underlying22 (((Own.ext hdX hE34).rdl encN_len))) ?_
      refine RG.sliceL (L := 0) (H := X.length) _ rfl rfl rfl rfl rfl Try.underlying22 sz_5 ((hoc.rdl encN_len)) (.inl ⟨rfl, rfl⟩) (.inr ⟨_, _, _, rfl, rfl, by omega⟩) (by omega) (by omega) (fun v35 hrv35 => ?_)
      rw [List.drop_zero, henc.pre] at hrv35
      refine RG.vl rfl rfl rfl (Ev.move rfl rfl) ?_
      refine RG.call rfl rfl rfl rfl rfl rfl rfl en_19 (sameBt_ret _ _ X _ (hrv35) (((Own.ext hdX hE34).rdl encN_len)) (by omega)) ?_
      rintro _ w36 ⟨rfl, hx36⟩
      replace hxwl2 := Ex.tr hxwl2 hx36
      replace hE34 := Ex.tr hE34 hx36
      have hE37 := hx36
      refine RG.vl rfl rfl rfl (Ev.pickT rfl rfl rfl) ?_
      refine RG.vl rfl rfl rfl (Ev.assign rfl rfl) ?_
      refine RG.vl rfl rfl rfl (Ev.assign rfl rfl) ?_
      refine RG.done ?_
      refine QW.sub (S' := [(2, _), (3, _)]) ⟨rfl, rfl, trivial⟩ ?_
      refine QW.then_ ?_
      refine CW.ret ?_
      refine QW.ret2 rfl rfl rfl ?_
      have hB := (Ex.tr hB0 hxwl2)
      exact ⟨r, c, rfl, (Own.ext hoc hE37), by rw [← hX]; exact henc, hB⟩

end Go.Proofs.Ytjhgihgggofocaa
