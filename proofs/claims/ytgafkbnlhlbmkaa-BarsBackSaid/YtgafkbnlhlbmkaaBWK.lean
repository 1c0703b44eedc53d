/- Walks (BWK). Written by program. -/
import Derived.Test.YtgafkbnlhlbmkaaT
import Derived.Test.YtgafkbnlhlbmkaaBWB
import Derived.Test.YtgafkbnlhlbmkaaBS2
import Derived.Test.YtgafkbnlhlbmkaaBFR
namespace Go.Proofs.Ytgafkbnlhlbmkaa
open Go.RowKit
set_option maxRecDepth 100000 in
set_option maxHeartbeats 4000000 in
theorem barsBack_ret (lv mv : Value) (l m : List UInt8) (w : World) (hl : RdL w 1 encB lv l) (hm : RdL w 1 encB mv m) :
    Ret Try.prog 4 [lv, mv] w (fun v w' => v = .bool true ∧ Ex w w') := by
  obtain ⟨lA, lC, rfl⟩ := hl.shape
  obtain ⟨mA, mC, rfl⟩ := hm.shape
  have hB0 : Ex w w := Ex.rfl_ _
  refine Ret.of Try.func4 rfl Try.ntmps4 rfl ?_
  refine CW.seq ?_
  refine CW.region ?_
  refine RG.vl rfl rfl rfl (Ev.assign rfl rfl) ?_
  refine RG.done ?_
  refine QW.then_ ?_
  refine CW.seq ?_
  refine CW.region ?_
  refine RG.vl rfl rfl rfl (Ev.assign rfl rfl) ?_
  refine RG.done ?_
  refine QW.then_ ?_
  refine CW.seq ?_
  refine CW.seq ?_
  refine CW.region ?_
  refine RG.vl rfl rfl rfl (Ev.move rfl rfl) ?_
  refine RG.vl rfl rfl rfl (Ev.move rfl rfl) ?_
  refine RG.vl rfl rfl rfl (Ev.lenL rfl rfl rfl Try.underlying22 (hl)) ?_
  refine RG.vl rfl rfl rfl ((Ev.min2 rfl rfl rfl rfl).conv (congrArg (Value.int .i64) (show min ((l.length : Nat) : Int) 60 = ((min l.length 60 : Nat) : Int) by omega))) ?_
  refine RG.sliceL (L := 0) (H := min l.length 60) _ rfl rfl rfl rfl rfl Try.underlying22 sz_5 (hl) (.inl ⟨rfl, rfl⟩) (.inr ⟨_, _, _, rfl, rfl, by omega⟩) (by omega) (by omega) (fun v1 hrv1 => ?_)
  rw [take_min] at hrv1
  have hTl : (l.take 60).length ≤ 60 := by rw [List.length_take]; omega
  generalize l.take 60 = T at *
  refine RG.vl rfl rfl rfl (Ev.lenL rfl rfl rfl Try.underlying22 (hrv1)) ?_
  refine RG.vl rfl rfl rfl (Ev.move rfl rfl) ?_
  refine RG.done ?_
  refine QW.then_ ?_
  refine CW.block ?_
  refine CW.loop2 [(1, _), (4, _), (24, _), (25, _)] ⟨rfl, rfl, rfl, rfl, trivial⟩ (fun (i : Nat) (u : Value) => [(26, .int .i64 (i : Int)), (5, u)]) (fun i u w' => (i ≤ T.length ∧ Own w' w.heap.size 5 1 encB u ((T.take i).map m64)) ∧ Ex w w') (fun i u => T.length - i) (0) (.slice none 0 0) ⟨rfl, rfl, trivial⟩ ⟨⟨Nat.zero_le _, Own.nil_ _ _ _ _ _⟩, hB0⟩ ?_
  rintro i u wl2 ⟨⟨hi, hou⟩, hxwl2⟩
  refine CW.sub (S' := [(26, _), (5, _), (1, _), (4, _), (24, _), (25, _)]) ⟨rfl, rfl, rfl, rfl, rfl, rfl, trivial⟩ ?_
  have hil : ((T.take i).map m64).length = i := by rw [List.length_map, List.length_take]; omega
  refine CW.seq ?_
  refine CW.region ?_
  refine RG.vl rfl rfl rfl (Ev.lss rfl rfl rfl) ?_
  refine RG.done ?_
  refine QW.then_ ?_
  refine CW.seq ?_
  refine CW.condP rfl (fun hc3 => ?_) (fun hc3 => ?_)
  · refine CW.skip ?_
    refine QW.then_ ?_
    refine CW.seq ?_
    refine CW.block ?_
    refine CW.seq ?_
    obtain ⟨x, hx⟩ : ∃ x, T[i]? = some x := ⟨_, List.getElem?_eq_getElem (by omega)⟩
    refine CW.region ?_
    refine RG.idxL rfl rfl rfl rfl rfl rfl Try.underlying22 sz_5 ((hrv1.ext hxwl2)) (hx) (fun p4 hp4b hp4 => ?_)
    refine RG.vl rfl rfl rfl (Ev.ld0 rfl rfl Try.underlying5 rfl (hp4) (rfl)) ?_
    refine RG.vl rfl rfl rfl (Ev.assign rfl rfl) ?_
    refine RG.done ?_
    refine QW.then_ ?_
    refine CW.region ?_
    refine RG.vl rfl rfl rfl (Ev.move rfl rfl) ?_
    refine RG.vl rfl rfl rfl (Ev.move rfl rfl) ?_
    refine RG.vl rfl rfl rfl ((Ev.rem8 rfl rfl rfl (by omega)).conv (congrArg (Value.int .u8) (show (x.toNat : Int) % 64 = ((m64 x).toNat : Int) by rw [m64_nat]; omega))) ?_
    refine RG.litO (os := [.tmp 32]) (enc := encB) ([m64 x]) rfl rfl rfl rfl rfl rfl rfl Try.underlying22 inf_5 rfl rfl rfl rfl rfl encB_len rfl rfl (fun v5 wk6 hxwk6 hown7 hnew8 => ?_)
    have hsep9 : Sep v5 _ := Sep.of_new hou hnew8
    replace hxwl2 := Ex.tr hxwl2 hxwk6
    have hE10 := hxwk6
    refine RG.appO rfl rfl rfl rfl rfl rfl rfl Try.underlying22 inf_5 rfl rfl encB_len (fun _ => rfl) (Own.ext hou hE10) ((hown7.rdl encB_len)) (by show _ + 1 ≤ maxLen; simp only [maxLen]; omega) (by show (_ + 1) * _ ≤ _; omega) (hxwl2.size) (fun v11 wa12 hown13 hgr14 hat15 => ?_)
    have hsep17 := Sep.app (Sep.symm hsep9) hown7 hat15
    have hown16 := Own.grown hown7 hgr14 (fun k a b => (Sep.symm hsep9) k b a)
    replace hxwl2 := own_block (Own.ext hou hE10) hxwl2 hgr14 (Nat.le_refl _) hxwl2.size
    refine RG.vl rfl rfl rfl (Ev.assign rfl rfl) ?_
    refine RG.done ?_
    refine QW.blockN ?_
    refine QW.then_ ?_
    refine CW.region ?_
    refine RG.vl rfl rfl rfl (Ev.addI rfl rfl rfl (by omega)) ?_
    refine RG.vl rfl rfl rfl (Ev.move rfl rfl) ?_
    refine RG.done ?_
    refine QW.round2 (i + 1) (v11) ⟨rfl, rfl, trivial⟩ ⟨rfl, rfl, rfl, rfl, trivial⟩ ⟨⟨by omega, by rw [m64_more hx]; exact hown13⟩, (Ex.tr hB0 hxwl2)⟩ (by omega)
  · refine CW.exit ?_
    refine QW.thenExit ?_
    refine QW.thenExit ?_
    refine QW.blockHit ?_
    refine QW.then_ ?_
    refine CW.seq ?_
    obtain rfl : i = T.length := by omega
    rw [List.take_length] at hou
    have hX64 := m64s_lt (T := T)
    have hXl : (T.map m64).length = T.length := List.length_map ..
    generalize T.map m64 = X at *
    have hwl := w3s_len X
    have hws := sb_len (X.flatMap w3)
    obtain ⟨n3, hn3⟩ : ∃ n, n = (X.flatMap w3).length := ⟨_, rfl⟩
    refine CW.region ?_
    refine RG.vl rfl rfl rfl (Ev.move rfl rfl) ?_
    refine RG.call rfl rfl rfl rfl rfl rfl rfl en_12 (write_is _ X (X.flatMap w3) 0 _ ((hou.rdl encB_len)) (read_write (by omega) hX64).1) ?_
    rintro _ w18 ⟨rfl, hx18⟩
    replace hxwl2 := Ex.tr hxwl2 hx18
    have hE19 := hx18
    refine RG.vl rfl rfl rfl (Ev.move rfl rfl) ?_
    refine RG.vl rfl rfl rfl (Ev.extract rfl rfl rfl) ?_
    refine RG.vl rfl rfl rfl (Ev.extract rfl rfl rfl) ?_
    refine RG.vl rfl rfl rfl (Ev.assign rfl rfl) ?_
    refine RG.vl rfl rfl rfl (Ev.assign rfl rfl) ?_
    refine RG.done ?_
    refine QW.then_ ?_
    refine CW.seq ?_
    refine CW.seq ?_
    refine CW.region ?_
    refine RG.vl rfl rfl rfl (Ev.move rfl rfl) ?_
    refine RG.vl rfl rfl rfl (Ev.isF (Ev.neI rfl rfl rfl) (fun h => h rfl)) ?_
    refine RG.vl rfl rfl rfl (Ev.move rfl rfl) ?_
    refine RG.vl rfl rfl rfl (Ev.move rfl rfl) ?_
    refine RG.vl rfl rfl rfl (Ev.lenStr rfl rfl rfl Try.underlying9) ?_
    refine RG.vl rfl rfl rfl (Ev.move rfl rfl) ?_
    refine RG.vl rfl rfl rfl (Ev.lenL rfl rfl rfl Try.underlying22 (((Own.ext hou hE19).rdl encB_len))) ?_
    refine RG.vl rfl rfl rfl (Ev.mulI rfl rfl rfl (by omega)) ?_
    refine RG.vl rfl rfl rfl (Ev.isF (Ev.neI rfl rfl rfl) (fun h => h (by omega))) ?_
    refine RG.vl rfl rfl rfl (Ev.pickF rfl rfl rfl) ?_
    refine RG.done ?_
    refine QW.sub (S' := [(1, _), (4, _), (5, _), (8, _), (50, _)]) ⟨rfl, rfl, rfl, rfl, rfl, trivial⟩ ?_
    refine QW.then_ ?_
    refine CW.condF rfl ?_
    refine CW.skip ?_
    refine QW.then_ ?_
    refine CW.seq ?_
    refine CW.region ?_
    refine RG.vl rfl rfl rfl (Ev.move rfl rfl) ?_
    replace hl := (hl.ext hxwl2)
    replace hm := (hm.ext hxwl2)
    replace hrv1 := (hrv1.ext hxwl2)
    replace hou := (Own.ext hou hE19)
    have hR20 := (Ex.tr hB0 hxwl2)
    have hR21 := hE19
    refine RG.toBytesM rfl rfl rfl rfl rfl Try.underlying9 Try.underlying22 Try.underlying5 (by simp only [maxLen]; omega) (fun gB cgB wk22 egB hxwk22 hbgB hc1gB hc2gB => ?_)
    have hle23 : w18.heap.size ≤ gB := by have := (Ex.rfl_ w18).size; omega
    have hE24 := hxwk22
    refine RG.vl rfl rfl rfl (Ev.assign rfl rfl) ?_
    refine RG.done ?_
    refine QW.then_ ?_
    refine CW.seq ?_
    refine CW.region ?_
    refine RG.vl rfl rfl rfl (Ev.move rfl rfl) ?_
    refine RG.vl rfl rfl rfl (Ev.lenL rfl rfl rfl Try.underlying22 (((Own.ext hou hE24).rdl encB_len))) ?_
    refine RG.makeO (m := X.length) (enc := encT) false rfl rfl rfl rfl rfl rfl (rfl) Try.underlying32 inf_4 encT_len rfl rfl (by omega) (by simp only [maxLen]; omega) (fun vh wk25 hxwk25 hown26 hnew27 => ?_)
    have hsep28 : Sep vh _ := Sep.of_new (Own.ext hou hE24) hnew27
    have hsb29 : vh.ownBlock = some gB → False := fun e => by have h1 := Own.ge hown26 e; have h2 := Mkd.lt hbgB; omega
    replace hown26 := Own.low (B' := w18.heap.size) hown26 (by have := hE24.size; omega)
    replace hE24 := Ex.tr hE24 hxwk25
    have hE30 := hxwk25
    refine RG.vl rfl rfl rfl (Ev.assign rfl rfl) ?_
    refine RG.done ?_
    refine QW.then_ ?_
    refine CW.seq ?_
    refine CW.seq ?_
    refine CW.region ?_
    refine RG.vl rfl rfl rfl (Ev.move rfl rfl) ?_
    refine RG.vl rfl rfl rfl (Ev.move rfl rfl) ?_
    refine RG.vl rfl rfl rfl (Ev.lenL rfl rfl rfl Try.underlying22 ((hm.ext hE24))) ?_
    refine RG.vl rfl rfl rfl ((Ev.min2 rfl rfl rfl rfl).conv (congrArg (Value.int .i64) (show min ((m.length : Nat) : Int) 10 = ((min m.length 10 : Nat) : Int) by omega))) ?_
    refine RG.sliceL (L := 0) (H := min m.length 10) _ rfl rfl rfl rfl rfl Try.underlying22 sz_5 (hm) (.inl ⟨rfl, rfl⟩) (.inr ⟨_, _, _, rfl, rfl, by omega⟩) (by omega) (by omega) (fun v31 hrv31 => ?_)
    rw [take_min] at hrv31
    have hT2l : (m.take 10).length ≤ 10 := by rw [List.length_take]; omega
    generalize m.take 10 = T2 at *
    refine RG.vl rfl rfl rfl (Ev.lenL rfl rfl rfl Try.underlying22 ((hrv31.ext hE24))) ?_
    refine RG.vl rfl rfl rfl (Ev.move rfl rfl) ?_
    refine RG.done ?_
    refine QW.sub (S' := [(4, _), (5, _), (10, _), (11, _), (60, _), (61, _), (62, _)]) ⟨rfl, rfl, rfl, rfl, rfl, rfl, rfl, trivial⟩ ?_
    refine QW.then_ ?_
    refine CW.block ?_
    refine CW.loop1 [(4, _), (5, _), (10, _), (11, _), (60, _), (61, _)] ⟨rfl, rfl, rfl, rfl, rfl, rfl, trivial⟩ (fun (k : Nat) => [(62, .int .i64 (k : Int))]) (fun k w' => (k ≤ T2.length ∧ Mkd w' gB 5 (hitL (X.flatMap w3) ((T2.take k).map fun x => x.toNat % n3)) ∧ Own w' w18.heap.size 4 1 encT vh (hitB X.length ((T2.take k).map fun x => x.toNat % n3))) ∧ Ex w18 w') (fun k => T2.length - k) (0) ⟨rfl, trivial⟩ ⟨⟨Nat.zero_le _, (hbgB.ext hE30), by rw [List.take_zero, List.map_nil, hitB_nil]; exact hown26⟩, hE24⟩ ?_
    rintro k wl32 ⟨⟨hkl, hgm, hoh⟩, hxwl32⟩
    refine CW.sub (S' := [(62, _), (4, _), (5, _), (10, _), (11, _), (60, _), (61, _)]) ⟨rfl, rfl, rfl, rfl, rfl, rfl, rfl, trivial⟩ ?_
    refine CW.seq ?_
    refine CW.region ?_
    refine RG.vl rfl rfl rfl (Ev.lss rfl rfl rfl) ?_
    refine RG.done ?_
    refine QW.then_ ?_
    refine CW.seq ?_
    refine CW.condP rfl (fun hc33 => ?_) (fun hc33 => ?_)
    · refine CW.skip ?_
      refine QW.then_ ?_
      refine CW.seq ?_
      refine CW.block ?_
      refine CW.seq ?_
      obtain ⟨x2, hx2⟩ : ∃ x, T2[k]? = some x := ⟨_, List.getElem?_eq_getElem (by omega)⟩
      have hx28 := x2.toNat_lt
      have hpt := List.take_add_one (l := T2) (i := k)
      rw [hx2, Option.toList_some] at hpt
      refine CW.region ?_
      refine RG.idxL rfl rfl rfl rfl rfl rfl Try.underlying22 sz_5 ((hrv31.ext hxwl32)) (hx2) (fun p34 hp34b hp34 => ?_)
      refine RG.vl rfl rfl rfl (Ev.ld0 rfl rfl Try.underlying5 rfl (hp34) (rfl)) ?_
      refine RG.vl rfl rfl rfl (Ev.assign rfl rfl) ?_
      refine RG.done ?_
      refine QW.then_ ?_
      refine CW.seq ?_
      refine CW.region ?_
      refine RG.vl rfl rfl rfl (Ev.move rfl rfl) ?_
      refine RG.vl rfl rfl rfl (Ev.lenSlice rfl rfl rfl Try.underlying22) ?_
      refine RG.vl rfl rfl rfl (Ev.gtr rfl rfl rfl) ?_
      refine RG.done ?_
      refine QW.then_ ?_
      refine CW.condP rfl (fun hc35 => ?_) (fun hc35 => ?_)
      · refine CW.seq ?_
        have hn0 : 0 < n3 := by omega
        have hpn := Nat.mod_lt x2.toNat hn0
        refine CW.region ?_
        refine RG.vl rfl rfl rfl (Ev.move rfl rfl) ?_
        refine RG.vl rfl rfl rfl (Ev.move rfl rfl) ?_
        refine RG.vl rfl rfl rfl (Ev.to64 rfl rfl Try.underlying5 Try.underlying3 (by omega)) ?_
        refine RG.vl rfl rfl rfl (Ev.move rfl rfl) ?_
        refine RG.vl rfl rfl rfl (Ev.lenSlice rfl rfl rfl Try.underlying22) ?_
        refine RG.vl rfl rfl rfl ((Ev.remI rfl rfl rfl (by omega)).conv (congrArg (Value.int .i64) (show (x2.toNat : Int) % (((X.flatMap w3).length : Nat) : Int) = ((x2.toNat % n3 : Nat) : Int) by rw [hn3, Int.natCast_emod]))) ?_
        refine RG.vl rfl rfl rfl (Ev.idxN rfl rfl rfl Try.underlying22 sz_5 (by omega)) ?_
        refine RG.stM (g := gB) (63) rfl rfl rfl rfl rfl sz_5 hgm (by rw [hitL_len]; omega) (fun ws36 hwws36 hbws36 => ?_)
        replace hoh := Own.far hoh hwws36 hsb29
        replace hxwl32 := Wr.below hxwl32 hwws36 hle23
        refine RG.done ?_
        refine QW.sub (S' := [(4, _), (5, _), (10, _), (11, _), (13, _), (60, _), (61, _), (62, _)]) ⟨rfl, rfl, rfl, rfl, rfl, rfl, rfl, rfl, trivial⟩ ?_
        refine QW.then_ ?_
        refine CW.region ?_
        refine RG.vl rfl rfl rfl (Ev.move rfl rfl) ?_
        refine RG.vl rfl rfl rfl (Ev.move rfl rfl) ?_
        refine RG.vl rfl rfl rfl (Ev.to64 rfl rfl Try.underlying5 Try.underlying3 (by omega)) ?_
        refine RG.vl rfl rfl rfl (Ev.move rfl rfl) ?_
        refine RG.vl rfl rfl rfl (Ev.lenSlice rfl rfl rfl Try.underlying22) ?_
        refine RG.vl rfl rfl rfl ((Ev.remI rfl rfl rfl (by omega)).conv (congrArg (Value.int .i64) (show (x2.toNat : Int) % (((X.flatMap w3).length : Nat) : Int) = ((x2.toNat % n3 : Nat) : Int) by rw [hn3, Int.natCast_emod]))) ?_
        refine RG.vl rfl rfl rfl ((Ev.quoI rfl rfl rfl (by omega)).conv (congrArg (Value.int .i64) (show ((x2.toNat % n3 : Nat) : Int) / 3 = ((x2.toNat % n3 / 3 : Nat) : Int) by omega))) ?_
        refine RG.idxO rfl rfl rfl rfl rfl rfl Try.underlying32 sz_4 encT_len (hoh) (hitB_at _ (by omega)) (fun g38 hg38 hBg38 hp37b hp37 => ?_)
        refine RG.stOw0 (g := g38) (true) rfl rfl rfl rfl rfl sz_4 rfl (fun _ => rfl) hoh hg38 (hitB_at _ (by omega)) rfl (rfl) (fun ws39 hwws39 hown40 => ?_)
        replace hbws36 := Mkd.far hbws36 hwws39 (fun e => hsb29 (by rw [e]; exact hg38))
        replace hxwl32 := Wr.below hxwl32 hwws39 hBg38
        refine RG.done ?_
        refine QW.blockN ?_
        refine QW.then_ ?_
        refine CW.region ?_
        refine RG.vl rfl rfl rfl (Ev.addI rfl rfl rfl (by omega)) ?_
        refine RG.vl rfl rfl rfl (Ev.move rfl rfl) ?_
        refine RG.done ?_
        refine QW.round1 (k + 1) ⟨rfl, trivial⟩ ⟨rfl, rfl, rfl, rfl, rfl, rfl, trivial⟩ ⟨⟨by omega, by rw [hpt, List.map_append, List.map_singleton, hitL_more]; exact hbws36, by rw [hpt, List.map_append, List.map_singleton, hitB_more]; exact hown40⟩, hxwl32⟩ (by omega)
      · refine CW.skip ?_
        refine QW.blockN ?_
        refine QW.then_ ?_
        refine CW.region ?_
        refine RG.vl rfl rfl rfl (Ev.addI rfl rfl rfl (by omega)) ?_
        refine RG.vl rfl rfl rfl (Ev.move rfl rfl) ?_
        refine RG.done ?_
        refine QW.round1 (k + 1) ⟨rfl, trivial⟩ ⟨rfl, rfl, rfl, rfl, rfl, rfl, trivial⟩ ⟨⟨by omega, by rw [hpt, List.map_append, List.map_singleton, hitL_more, List.set_eq_of_length_le (by rw [hitL_len]; omega)]; exact hgm, by rw [hpt, List.map_append, List.map_singleton, hitB_more, List.set_eq_of_length_le (by rw [hitB_len]; omega)]; exact hoh⟩, hxwl32⟩ (by omega)
    · refine CW.exit ?_
      refine QW.thenExit ?_
      refine QW.thenExit ?_
      refine QW.blockHit ?_
      refine QW.then_ ?_
      refine CW.seq ?_
      obtain rfl : k = T2.length := by omega
      rw [List.take_length] at hgm hoh
      generalize T2.map (fun x => x.toNat % n3) = ps at *
      obtain ⟨S, E, hread, hSl, hS, hE⟩ := read_hit (X := X) (by omega) hX64 ps
      have hlL := hitL_len ps (X.flatMap w3)
      refine CW.region ?_
      refine RG.vl rfl rfl rfl (Ev.move rfl rfl) ?_
      refine RG.vl rfl rfl rfl (Ev.toStr rfl rfl Try.underlying22 Try.underlying5 Try.underlying9 ((Mkd.rdl hgm hlL hc1gB hc2gB))) ?_
      refine RG.call rfl rfl rfl rfl rfl rfl rfl en_15 (read_is (hitL (X.flatMap w3) ps) S E 0 _ hread) ?_
      have hpre41 := (Ex.tr hR20 hxwl32)
      rintro _ w41 ⟨r41, x41, rfl, hr41, hz41, hx41⟩
      have hsep42 : Sep r41 _ := Sep.of_new (Own.ext hou hxwl32) (fun k h => Own.ge hr41 h)
      have hsep43 : Sep r41 _ := Sep.of_new hoh (fun k h => Own.ge hr41 h)
      have hsep44 : Sep x41 _ := Sep.of_new (Own.ext hou hxwl32) (fun k h => Own.ge hz41 h)
      have hsep45 : Sep x41 _ := Sep.of_new hoh (fun k h => Own.ge hz41 h)
      replace hxwl32 := Ex.tr hxwl32 hx41
      have hE46 := hx41
      refine RG.vl rfl rfl rfl (Ev.move rfl rfl) ?_
      refine RG.vl rfl rfl rfl (Ev.extract rfl rfl rfl) ?_
      refine RG.vl rfl rfl rfl (Ev.extract rfl rfl rfl) ?_
      refine RG.vl rfl rfl rfl (Ev.extract rfl rfl rfl) ?_
      refine RG.vl rfl rfl rfl (Ev.assign rfl rfl) ?_
      refine RG.vl rfl rfl rfl (Ev.assign rfl rfl) ?_
      refine RG.vl rfl rfl rfl (Ev.assign rfl rfl) ?_
      refine RG.done ?_
      refine QW.then_ ?_
      refine CW.seq ?_
      refine CW.seq ?_
      refine CW.region ?_
      refine RG.vl rfl rfl rfl (Ev.move rfl rfl) ?_
      refine RG.vl rfl rfl rfl (Ev.isF (Ev.neI rfl rfl rfl) (fun h => h rfl)) ?_
      refine RG.vl rfl rfl rfl (Ev.move rfl rfl) ?_
      refine RG.vl rfl rfl rfl (Ev.move rfl rfl) ?_
      refine RG.vl rfl rfl rfl (Ev.lenL rfl rfl rfl Try.underlying22 ((hr41.rdl encB_len))) ?_
      refine RG.vl rfl rfl rfl (Ev.move rfl rfl) ?_
      refine RG.vl rfl rfl rfl (Ev.lenL rfl rfl rfl Try.underlying22 (((Own.ext hou hxwl32).rdl encB_len))) ?_
      refine RG.vl rfl rfl rfl (Ev.isF (Ev.neI rfl rfl rfl) (fun h => h (by omega))) ?_
      refine RG.vl rfl rfl rfl (Ev.pickF rfl rfl rfl) ?_
      refine RG.done ?_
      refine QW.sub (S' := [(4, _), (5, _), (11, _), (14, _), (15, _), (100, _)]) ⟨rfl, rfl, rfl, rfl, rfl, rfl, trivial⟩ ?_
      refine QW.then_ ?_
      refine CW.condF rfl ?_
      refine CW.skip ?_
      refine QW.then_ ?_
      refine CW.seq ?_
      refine CW.region ?_
      refine RG.vl rfl rfl rfl (Ev.assign rfl rfl) ?_
      refine RG.done ?_
      refine QW.then_ ?_
      refine CW.seq ?_
      refine CW.seq ?_
      refine CW.region ?_
      refine RG.vl rfl rfl rfl (Ev.move rfl rfl) ?_
      refine RG.vl rfl rfl rfl (Ev.lenL rfl rfl rfl Try.underlying22 (((Own.ext hou hxwl32).rdl encB_len))) ?_
      refine RG.vl rfl rfl rfl (Ev.move rfl rfl) ?_
      refine RG.done ?_
      refine QW.then_ ?_
      refine CW.block ?_
      replace hl := (hl.ext hxwl32)
      replace hm := (hm.ext hxwl32)
      replace hrv1 := (hrv1.ext hxwl32)
      replace hou := (Own.ext hou hxwl32)
      replace hrv31 := (hrv31.ext hxwl32)
      replace hgm := (hgm.ext hE46)
      replace hoh := (Own.ext hoh hE46)
      have hR47 := (Ex.tr hR20 hxwl32)
      have hR48 := (Ex.tr hR21 hxwl32)
      have hR49 := hxwl32
      have hR50 := hE46
      refine CW.loop2 [(5, _), (11, _), (14, _), (15, _), (102, _)] ⟨rfl, rfl, rfl, rfl, rfl, trivial⟩ (fun (i : Nat) (q : Nat) => [(103, .int .i64 (i : Int)), (17, .int .i64 (q : Int))]) (fun i q w' => (i ≤ X.length ∧ q = ((List.range i).filter (hk ps)).length) ∧ Ex w41 w') (fun i q => X.length - i) (0) (0) ⟨rfl, rfl, trivial⟩ ⟨⟨Nat.zero_le _, rfl⟩, (Ex.rfl_ _)⟩ ?_
      rintro i q wl51 ⟨⟨hi, hq⟩, hxwl51⟩
      refine CW.sub (S' := [(103, _), (17, _), (5, _), (11, _), (14, _), (15, _), (102, _)]) ⟨rfl, rfl, rfl, rfl, rfl, rfl, rfl, trivial⟩ ?_
      refine CW.seq ?_
      refine CW.region ?_
      refine RG.vl rfl rfl rfl (Ev.lss rfl rfl rfl) ?_
      refine RG.done ?_
      refine QW.then_ ?_
      refine CW.seq ?_
      refine CW.condP rfl (fun hc52 => ?_) (fun hc52 => ?_)
      · refine CW.skip ?_
        refine QW.then_ ?_
        refine CW.seq ?_
        refine CW.block ?_
        refine CW.seq ?_
        refine CW.region ?_
        refine RG.vl rfl rfl rfl (Ev.move rfl rfl) ?_
        refine RG.vl rfl rfl rfl (Ev.assign rfl rfl) ?_
        refine RG.done ?_
        refine QW.then_ ?_
        refine CW.seq ?_
        obtain ⟨s, hs⟩ : ∃ s, X[i]? = some s := ⟨_, List.getElem?_eq_getElem (by omega)⟩
        have hSi := hS i s hs
        have hmo := told_len (hk ps) i
        have hEl := congrArg List.length hE
        have hEle := List.length_filter_le (hk ps) (List.range X.length)
        rw [List.length_range] at hEle
        refine CW.region ?_
        refine RG.vl rfl rfl rfl (Ev.move rfl rfl) ?_
        refine RG.vl rfl rfl rfl (Ev.move rfl rfl) ?_
        refine RG.idxO rfl rfl rfl rfl rfl rfl Try.underlying22 sz_5 encB_len ((Own.ext hou hxwl51)) (hs) (fun g54 hg54 hBg54 hp53b hp53 => ?_)
        refine RG.vl rfl rfl rfl (Ev.ld0 rfl rfl Try.underlying5 rfl (hp53) (rfl)) ?_
        refine RG.vl rfl rfl rfl (Ev.assign rfl rfl) ?_
        refine RG.done ?_
        refine QW.then_ ?_
        refine CW.seq ?_
        refine CW.seq ?_
        refine CW.region ?_
        refine RG.vl rfl rfl rfl (Ev.move rfl rfl) ?_
        refine RG.vl rfl rfl rfl (Ev.move rfl rfl) ?_
        refine RG.idxO rfl rfl rfl rfl rfl rfl Try.underlying32 sz_4 encT_len ((Own.ext hoh hxwl51)) (hitB_at ps (by omega)) (fun g56 hg56 hBg56 hp55b hp55 => ?_)
        refine RG.vl rfl rfl rfl (Ev.ld0 rfl rfl Try.underlying4 rfl (hp55) (rfl)) ?_
        refine RG.done ?_
        refine QW.then_ ?_
        refine CW.cond rfl (fun hc57 => ?_) (fun hc57 => ?_)
        · refine CW.seq ?_
          have hyes : hk ps i = true := by assumption
          have hta := told_at (hk ps) (show i < X.length by omega) hyes
          rw [← hE, ← hq] at hta
          have htl := (List.getElem?_eq_some_iff.1 hta).1
          rw [if_pos hyes] at hmo
          refine CW.region ?_
          refine RG.vl rfl rfl rfl (Ev.assign rfl rfl) ?_
          refine RG.done ?_
          refine QW.then_ ?_
          refine CW.seq ?_
          refine CW.seq ?_
          refine CW.region ?_
          refine RG.vl rfl rfl rfl (Ev.move rfl rfl) ?_
          refine RG.vl rfl rfl rfl (Ev.move rfl rfl) ?_
          refine RG.vl rfl rfl rfl (Ev.lenL rfl rfl rfl Try.underlying33 (((Own.ext hz41 hxwl51).rdl encZ_len))) ?_
          refine RG.vl rfl rfl rfl (Ev.isF (Ev.geq rfl rfl rfl) (by omega)) ?_
          refine RG.vl rfl rfl rfl (Ev.move rfl rfl) ?_
          refine RG.vl rfl rfl rfl (Ev.move rfl rfl) ?_
          refine RG.vl rfl rfl rfl (Ev.move rfl rfl) ?_
          refine RG.idxO rfl rfl rfl rfl rfl rfl Try.underlying33 sz_3 encZ_len ((Own.ext hz41 hxwl51)) (hta) (fun g59 hg59 hBg59 hp58b hp58 => ?_)
          refine RG.vl rfl rfl rfl (Ev.ld0 rfl rfl Try.underlying3 rfl (hp58) (rfl)) ?_
          refine RG.vl rfl rfl rfl (Ev.move rfl rfl) ?_
          refine RG.vl rfl rfl rfl (Ev.isF (Ev.neI rfl rfl rfl) (fun h => h rfl)) ?_
          refine RG.vl rfl rfl rfl (Ev.pickF rfl rfl rfl) ?_
          refine RG.done ?_
          refine QW.sub (S' := [(5, _), (11, _), (14, _), (15, _), (17, _), (18, _), (19, _), (102, _), (103, _), (125, _)]) ⟨rfl, rfl, rfl, rfl, rfl, rfl, rfl, rfl, rfl, rfl, trivial⟩ ?_
          refine QW.then_ ?_
          refine CW.condF rfl ?_
          refine CW.skip ?_
          refine QW.then_ ?_
          refine CW.region ?_
          refine RG.vl rfl rfl rfl (Ev.move rfl rfl) ?_
          refine RG.vl rfl rfl rfl (Ev.addI rfl rfl rfl (by omega)) ?_
          refine RG.vl rfl rfl rfl (Ev.assign rfl rfl) ?_
          refine RG.done ?_
          refine QW.then_ ?_
          refine CW.seq ?_
          refine CW.region ?_
          refine RG.vl rfl rfl rfl (Ev.move rfl rfl) ?_
          refine RG.vl rfl rfl rfl (Ev.move rfl rfl) ?_
          refine RG.idxO rfl rfl rfl rfl rfl rfl Try.underlying22 sz_5 encB_len ((Own.ext hr41 hxwl51)) (hSi.1 hyes) (fun g61 hg61 hBg61 hp60b hp60 => ?_)
          refine RG.vl rfl rfl rfl (Ev.ld0 rfl rfl Try.underlying5 rfl (hp60) (rfl)) ?_
          refine RG.vl rfl rfl rfl (Ev.move rfl rfl) ?_
          refine RG.vl rfl rfl rfl (Ev.isF (Ev.neI rfl rfl rfl) (fun h => h rfl)) ?_
          refine RG.done ?_
          refine QW.then_ ?_
          refine CW.condF rfl ?_
          refine CW.skip ?_
          refine QW.blockN ?_
          refine QW.then_ ?_
          refine CW.region ?_
          refine RG.vl rfl rfl rfl (Ev.addI rfl rfl rfl (by omega)) ?_
          refine RG.vl rfl rfl rfl (Ev.move rfl rfl) ?_
          refine RG.done ?_
          refine QW.round2 (i + 1) (q + 1) ⟨rfl, rfl, trivial⟩ ⟨rfl, rfl, rfl, rfl, rfl, trivial⟩ ⟨⟨by omega, by omega⟩, hxwl51⟩ (by omega)
        · refine CW.skip ?_
          refine QW.then_ ?_
          refine CW.seq ?_
          have hno : hk ps i = false := by assumption
          rw [hno, if_neg (by decide)] at hmo
          refine CW.region ?_
          refine RG.vl rfl rfl rfl (Ev.move rfl rfl) ?_
          refine RG.vl rfl rfl rfl (Ev.move rfl rfl) ?_
          refine RG.idxO rfl rfl rfl rfl rfl rfl Try.underlying22 sz_5 encB_len ((Own.ext hr41 hxwl51)) (hSi.2 hno) (fun g63 hg63 hBg63 hp62b hp62 => ?_)
          refine RG.vl rfl rfl rfl (Ev.ld0 rfl rfl Try.underlying5 rfl (hp62) (rfl)) ?_
          refine RG.vl rfl rfl rfl (Ev.move rfl rfl) ?_
          refine RG.vl rfl rfl rfl (Ev.isF (Ev.neI rfl rfl rfl) (fun h => h rfl)) ?_
          refine RG.done ?_
          refine QW.sub (S' := [(5, _), (11, _), (14, _), (15, _), (17, _), (102, _), (103, _), (133, _)]) ⟨rfl, rfl, rfl, rfl, rfl, rfl, rfl, rfl, trivial⟩ ?_
          refine QW.then_ ?_
          refine CW.condF rfl ?_
          refine CW.skip ?_
          refine QW.blockN ?_
          refine QW.then_ ?_
          refine CW.region ?_
          refine RG.vl rfl rfl rfl (Ev.addI rfl rfl rfl (by omega)) ?_
          refine RG.vl rfl rfl rfl (Ev.move rfl rfl) ?_
          refine RG.done ?_
          refine QW.round2 (i + 1) (q) ⟨rfl, rfl, trivial⟩ ⟨rfl, rfl, rfl, rfl, rfl, trivial⟩ ⟨⟨by omega, by omega⟩, hxwl51⟩ (by omega)
      · refine CW.exit ?_
        refine QW.thenExit ?_
        refine QW.thenExit ?_
        refine QW.blockHit ?_
        refine QW.then_ ?_
        refine CW.seq ?_
        have hend : i = X.length := by omega
        rw [hend, ← hE] at hq
        refine CW.region ?_
        refine RG.vl rfl rfl rfl (Ev.move rfl rfl) ?_
        refine RG.vl rfl rfl rfl (Ev.move rfl rfl) ?_
        refine RG.vl rfl rfl rfl (Ev.lenL rfl rfl rfl Try.underlying33 (((Own.ext hz41 hxwl51).rdl encZ_len))) ?_
        refine RG.vl rfl rfl rfl (Ev.isT (Ev.eqI rfl rfl rfl) (by omega)) ?_
        refine RG.vl rfl rfl rfl (Ev.move rfl rfl) ?_
        refine RG.call rfl rfl rfl rfl rfl rfl rfl en_10 (awake_ret _) ?_
        rintro _ w64 ⟨rfl, hx64⟩
        replace hxwl51 := Ex.tr hxwl51 hx64
        have hE65 := hx64
        refine RG.vl rfl rfl rfl (Ev.pickT rfl rfl rfl) ?_
        refine RG.vl rfl rfl rfl (Ev.assign rfl rfl) ?_
        refine RG.done ?_
        refine QW.then_ ?_
        refine CW.ret ?_
        refine QW.ret1 rfl rfl ?_
        have hB := (Ex.tr hR47 hxwl51)
        obtain rfl : i = X.length := by omega
        exact ⟨rfl, hB⟩

end Go.Proofs.Ytgafkbnlhlbmkaa
