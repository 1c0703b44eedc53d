/- Walks (SZ). Written by program. -/
import Derived.Test.YtjhgihgggofocaaT
import Derived.Test.YtjhgihgggofocaaSY
namespace Go.Proofs.Ytjhgihgggofocaa
open Go.RowKit
set_option maxRecDepth 100000 in
set_option maxHeartbeats 8000000 in
theorem solomonWithin_ret (lv mv : Value) (l m : List Nat) (w : World) (hl : RdL w 1 encN lv l) (hm : RdL w 1 encN mv m) (hb1 : ∀ c ∈ l, c < 256) (hb2 : ∀ c ∈ m, c < 256) :
    Ret Try.prog 7 [lv, mv] w (fun v w' => v = .bool true ∧ Ex w w') := by
  obtain ⟨lA, lC, rfl⟩ := hl.shape
  obtain ⟨mA, mC, rfl⟩ := hm.shape
  have hB0 : Ex w w := Ex.rfl_ _
  refine Ret.of Try.func7 rfl Try.ntmps7 rfl ?_
  refine CW.seq ?_
  refine CW.region ?_
  refine RG.vl rfl rfl rfl (Ev.assign rfl rfl) ?_
  refine RG.done ?_
  refine QW.then_ ?_
  refine CW.seq ?_
  refine CW.region ?_
  refine RG.vl rfl rfl rfl (Ev.assign rfl rfl) ?_
  refine RG.done ?_
  refine QW.then_ ?_
  refine CW.seq ?_
  refine CW.seq ?_
  refine CW.region ?_
  refine RG.vl rfl rfl rfl (Ev.move rfl rfl) ?_
  refine RG.vl rfl rfl rfl (Ev.move rfl rfl) ?_
  refine RG.vl rfl rfl rfl (Ev.lenL rfl rfl rfl Try.underlying22 (hl)) ?_
  refine RG.vl rfl rfl rfl ((Ev.min2 rfl rfl rfl rfl).conv (congrArg (Value.int .i64) (show min ((l.length : Nat) : Int) 63 = ((min l.length 63 : Nat) : Int) by omega))) ?_
  refine RG.sliceL (L := 0) (H := min l.length 63) _ rfl rfl rfl rfl rfl Try.underlying22 sz_5 (hl) (.inl ⟨rfl, rfl⟩) (.inr ⟨_, _, _, rfl, rfl, by omega⟩) (by omega) (by omega) (fun v1 hrv1 => ?_)
  rw [s19_min] at hrv1
  have hTl : (l.take 63).length ≤ 63 := by rw [List.length_take]; omega
  obtain ⟨T, hT⟩ : ∃ T, T = l.take 63 := ⟨_, rfl⟩
  rw [← hT] at hrv1 hTl
  refine RG.vl rfl rfl rfl (Ev.lenL rfl rfl rfl Try.underlying22 (hrv1)) ?_
  refine RG.vl rfl rfl rfl (Ev.move rfl rfl) ?_
  refine RG.done ?_
  refine QW.then_ ?_
  refine CW.block ?_
  refine CW.loop2 [(1, _), (4, _), (21, _), (22, _)] ⟨rfl, rfl, rfl, rfl, trivial⟩ (fun (i : Nat) (u : Value) => [(23, .int .i64 (i : Int)), (5, u)]) (fun i u w' => (i ≤ T.length ∧ Own w' w.heap.size 5 1 encN u ((T.take i).map fun c => c % 64)) ∧ Ex w w') (fun i u => T.length - i) (0) (.slice none 0 0) ⟨rfl, rfl, trivial⟩ ⟨⟨Nat.zero_le _, Own.nil_ _ _ _ _ _⟩, hB0⟩ ?_
  rintro i u wl2 ⟨⟨hi, hou⟩, hxwl2⟩
  refine CW.sub (S' := [(23, _), (5, _), (1, _), (4, _), (21, _), (22, _)]) ⟨rfl, rfl, rfl, rfl, rfl, rfl, trivial⟩ ?_
  have hil : ((T.take i).map (fun c => c % 64)).length = i := by rw [List.length_map, List.length_take]; omega
  refine CW.seq ?_
  refine CW.region ?_
  refine RG.vl rfl rfl rfl (Ev.lss rfl rfl rfl) ?_
  refine RG.done ?_
  refine QW.then_ ?_
  refine CW.seq ?_
  refine CW.condP rfl (fun hc3 => ?_) (fun hc3 => ?_)
  · refine CW.skip ?_
    refine QW.then_ ?_
    refine CW.seq ?_
    refine CW.block ?_
    refine CW.seq ?_
    obtain ⟨x, hx⟩ : ∃ x, T[i]? = some x := ⟨_, List.getElem?_eq_getElem (by omega)⟩
    have hx8 := hb1 x (List.mem_of_mem_take (by rw [← hT]; exact List.mem_of_getElem? hx))
    refine CW.region ?_
    refine RG.idxL rfl rfl rfl rfl rfl rfl Try.underlying22 sz_5 ((hrv1.ext hxwl2)) (hx) (fun p4 hp4b hp4 => ?_)
    refine RG.vl rfl rfl rfl (Ev.ld0 rfl rfl Try.underlying5 rfl (hp4) (rfl)) ?_
    refine RG.vl rfl rfl rfl (Ev.assign rfl rfl) ?_
    refine RG.done ?_
    refine QW.then_ ?_
    refine CW.region ?_
    refine RG.vl rfl rfl rfl (Ev.move rfl rfl) ?_
    refine RG.vl rfl rfl rfl (Ev.move rfl rfl) ?_
    refine RG.vl rfl rfl rfl ((Ev.rem8 rfl rfl rfl (by omega)).conv (congrArg (Value.int .u8) (show (x : Int) % 64 = ((x % 64 : Nat) : Int) by omega))) ?_
    refine RG.litO (os := [.tmp 29]) (enc := encN) ([x % 64]) rfl rfl rfl rfl rfl rfl rfl Try.underlying22 inf_5 rfl rfl rfl rfl rfl encN_len rfl rfl (fun v5 wk6 hxwk6 hown7 hnew8 => ?_)
    have hsep9 : Sep v5 _ := Sep.of_new hou hnew8
    replace hxwl2 := Ex.tr hxwl2 hxwk6
    have hE10 := hxwk6
    refine RG.appO rfl rfl rfl rfl rfl rfl rfl Try.underlying22 inf_5 rfl rfl encN_len (fun _ => rfl) (Own.ext hou hE10) ((hown7.rdl encN_len)) (by show _ + 1 ≤ maxLen; simp only [maxLen]; omega) (by show (_ + 1) * _ ≤ _; omega) (hxwl2.size) (fun v11 wa12 hown13 hgr14 hat15 => ?_)
    have hsep17 := Sep.app (Sep.symm hsep9) hown7 hat15
    have hown16 := Own.grown hown7 hgr14 (fun k a b => (Sep.symm hsep9) k b a)
    replace hxwl2 := own_block (Own.ext hou hE10) hxwl2 hgr14 (Nat.le_refl _) hxwl2.size
    refine RG.vl rfl rfl rfl (Ev.assign rfl rfl) ?_
    refine RG.done ?_
    refine QW.blockN ?_
    refine QW.then_ ?_
    refine CW.region ?_
    refine RG.vl rfl rfl rfl (Ev.addI rfl rfl rfl (by omega)) ?_
    refine RG.vl rfl rfl rfl (Ev.move rfl rfl) ?_
    refine RG.done ?_
    refine QW.round2 (i + 1) (v11) ⟨rfl, rfl, trivial⟩ ⟨rfl, rfl, rfl, rfl, trivial⟩ ⟨⟨by omega, by rw [List.take_add_one, hx, Option.toList_some, List.map_append, List.map_singleton]; exact hown13⟩, (Ex.tr hB0 hxwl2)⟩ (by omega)
  · refine CW.exit ?_
    refine QW.thenExit ?_
    refine QW.thenExit ?_
    refine QW.blockHit ?_
    refine QW.then_ ?_
    refine CW.seq ?_
    refine CW.block ?_
    obtain rfl : i = T.length := by omega
    rw [List.take_length] at hou
    obtain ⟨X0, hX⟩ : ∃ X, X = T.map (fun c => c % 64) := ⟨_, rfl⟩
    have hX0 : El X0 := by rw [hX]; intro a ha; obtain ⟨b, _, rfl⟩ := List.mem_map.1 ha; omega
    have hXl : X0.length = T.length := by rw [hX, List.length_map]
    rw [← hX] at hou
    refine CW.loop2 [(1, _), (4, _)] ⟨rfl, rfl, trivial⟩ (fun (j : Nat) (u : Value) => [(5, u)]) (fun j u w' => ((j = 0 ∨ X0.length + j ≤ 5) ∧ Own w' w.heap.size 5 1 encN u (X0 ++ List.replicate j 1)) ∧ Ex w w') (fun j u => 5 - (X0.length + j)) (0) (u) ⟨rfl, trivial⟩ ⟨⟨.inl rfl, by rw [List.replicate_zero, List.append_nil]; exact hou⟩, (Ex.tr hB0 hxwl2)⟩ ?_
    rintro j u wl18 ⟨⟨hj, hou⟩, hxwl18⟩
    refine CW.sub (S' := [(5, _), (1, _), (4, _)]) ⟨rfl, rfl, rfl, trivial⟩ ?_
    have hll : (X0 ++ List.replicate j 1).length = X0.length + j := by rw [List.length_append, List.length_replicate]
    refine CW.seq ?_
    refine CW.seq ?_
    refine CW.region ?_
    refine RG.vl rfl rfl rfl (Ev.move rfl rfl) ?_
    refine RG.vl rfl rfl rfl (Ev.lenL rfl rfl rfl Try.underlying22 ((hou.rdl encN_len))) ?_
    refine RG.vl rfl rfl rfl (Ev.lss rfl rfl rfl) ?_
    refine RG.done ?_
    refine QW.then_ ?_
    refine CW.condP rfl (fun hc19 => ?_) (fun hc19 => ?_)
    · refine CW.skip ?_
      refine QW.then_ ?_
      refine CW.block ?_
      refine CW.region ?_
      refine RG.vl rfl rfl rfl (Ev.move rfl rfl) ?_
      refine RG.litO (os := [_]) (enc := encN) ([1]) rfl rfl rfl rfl rfl rfl rfl Try.underlying22 inf_5 rfl rfl rfl rfl rfl encN_len rfl rfl (fun v20 wk21 hxwk21 hown22 hnew23 => ?_)
      have hsep24 : Sep v20 _ := Sep.of_new hou hnew23
      replace hxwl18 := Ex.tr hxwl18 hxwk21
      have hE25 := hxwk21
      refine RG.appO rfl rfl rfl rfl rfl rfl rfl Try.underlying22 inf_5 rfl rfl encN_len (fun _ => rfl) (Own.ext hou hE25) ((hown22.rdl encN_len)) (by show _ + 1 ≤ maxLen; simp only [maxLen]; omega) (by show (_ + 1) * _ ≤ _; omega) (hxwl18.size) (fun v26 wa27 hown28 hgr29 hat30 => ?_)
      have hsep32 := Sep.app (Sep.symm hsep24) hown22 hat30
      have hown31 := Own.grown hown22 hgr29 (fun k a b => (Sep.symm hsep24) k b a)
      replace hxwl18 := own_block (Own.ext hou hE25) hxwl18 hgr29 (Nat.le_refl _) hxwl18.size
      refine RG.vl rfl rfl rfl (Ev.assign rfl rfl) ?_
      refine RG.done ?_
      refine QW.blockN ?_
      refine QW.round2 (j + 1) (v26) ⟨rfl, trivial⟩ ⟨rfl, rfl, trivial⟩ ⟨⟨by omega, by rw [List.replicate_succ', ← List.append_assoc]; exact hown28⟩, (Ex.tr hB0 hxwl18)⟩ (by omega)
    · refine CW.exit ?_
      refine QW.thenExit ?_
      refine QW.thenExit ?_
      refine QW.blockHit ?_
      refine QW.then_ ?_
      refine CW.seq ?_
      obtain ⟨G, hG⟩ : ∃ G, G = X0 ++ List.replicate j 1 := ⟨_, rfl⟩
      have hGl : G.length = X0.length + j := by rw [hG]; exact hll
      have hGe : El G := by rw [hG]; exact hX0.app (fun a ha => by rw [List.eq_of_mem_replicate ha]; decide)
      have hWG : isW G = true := isW_iff.2 ⟨by omega, by omega, hGe⟩
      have hoG : Own wl18 w.heap.size 5 1 encN u G := by rw [hG]; exact hou
      refine CW.region ?_
      refine RG.vl rfl rfl rfl (Ev.assign rfl rfl) ?_
      refine RG.done ?_
      refine QW.then_ ?_
      refine CW.seq ?_
      refine CW.region ?_
      refine RG.vl rfl rfl rfl (Ev.move rfl rfl) ?_
      refine RG.vl rfl rfl rfl (Ev.lenL rfl rfl rfl Try.underlying22 ((hoG.rdl encN_len))) ?_
      replace hl := (hl.ext hxwl18)
      replace hm := (hm.ext hxwl18)
      replace hrv1 := (hrv1.ext hxwl18)
      have hR36 := (Ex.tr hB0 hxwl18)
      refine RG.makeO (m := G.length) (enc := encT) false rfl rfl rfl rfl rfl rfl (rfl) Try.underlying49 inf_4 encT_len rfl rfl (by omega) (by simp only [maxLen]; omega) (fun vb wk33 hxwk33 hown34 hnew35 => ?_)
      have hsep37 : Sep vb _ := Sep.of_new hoG hnew35
      have hE38 := hxwk33
      refine RG.vl rfl rfl rfl (Ev.assign rfl rfl) ?_
      refine RG.done ?_
      refine QW.then_ ?_
      refine CW.seq ?_
      refine CW.seq ?_
      refine CW.region ?_
      refine RG.vl rfl rfl rfl (Ev.move rfl rfl) ?_
      refine RG.vl rfl rfl rfl (Ev.move rfl rfl) ?_
      refine RG.vl rfl rfl rfl (Ev.lenL rfl rfl rfl Try.underlying22 ((hm.ext hE38))) ?_
      refine RG.vl rfl rfl rfl ((Ev.min2 rfl rfl rfl rfl).conv (congrArg (Value.int .i64) (show min ((m.length : Nat) : Int) 6 = ((min m.length 6 : Nat) : Int) by omega))) ?_
      refine RG.sliceL (L := 0) (H := min m.length 6) _ rfl rfl rfl rfl rfl Try.underlying22 sz_5 (hm) (.inl ⟨rfl, rfl⟩) (.inr ⟨_, _, _, rfl, rfl, by omega⟩) (by omega) (by omega) (fun v39 hrv39 => ?_)
      rw [s19_min] at hrv39
      have hT2l : (m.take 6).length ≤ 6 := by rw [List.length_take]; omega
      obtain ⟨T2, hT2⟩ : ∃ T, T = m.take 6 := ⟨_, rfl⟩
      rw [← hT2] at hrv39 hT2l
      refine RG.vl rfl rfl rfl (Ev.lenL rfl rfl rfl Try.underlying22 ((hrv39.ext hE38))) ?_
      refine RG.vl rfl rfl rfl (Ev.move rfl rfl) ?_
      refine RG.done ?_
      refine QW.sub (S' := [(4, _), (5, _), (8, _), (9, _), (46, _), (47, _), (48, _)]) ⟨rfl, rfl, rfl, rfl, rfl, rfl, rfl, trivial⟩ ?_
      refine QW.then_ ?_
      refine CW.block ?_
      refine CW.loop3 [(4, _), (5, _), (9, _), (46, _), (47, _)] ⟨rfl, rfl, rfl, rfl, rfl, trivial⟩ (fun (i : Nat) (er : List Nat) (v8 : Value) => [(48, .int .i64 (i : Int)), (8, v8)]) (fun i er v8 w' => (i ≤ T2.length ∧ er.Nodup ∧ (∀ a ∈ er, a < G.length) ∧ er.length ≤ i ∧ Own w' wl18.heap.size 4 1 encT vb (inB G.length er) ∧ Own w' wl18.heap.size 3 1 encZ v8 er ∧ Sep vb v8) ∧ Ex wl18 w') (fun i er v8 => T2.length - i) (0) ([]) (.slice none 0 0) ⟨rfl, rfl, trivial⟩ ⟨⟨Nat.zero_le _, List.nodup_nil, by simp, Nat.le_refl _, by rw [← inB_nil]; exact hown34, Own.nil_ _ _ _ _ _, (Sep.nil_ _).symm⟩, hE38⟩ ?_
      rintro i er v8 wl40 ⟨⟨hi, hnd, hall, her, hob, ho8, hsp⟩, hxwl40⟩
      refine CW.sub (S' := [(48, _), (8, _), (4, _), (5, _), (9, _), (46, _), (47, _)]) ⟨rfl, rfl, rfl, rfl, rfl, rfl, rfl, trivial⟩ ?_
      refine CW.seq ?_
      refine CW.region ?_
      refine RG.vl rfl rfl rfl (Ev.lss rfl rfl rfl) ?_
      refine RG.done ?_
      refine QW.then_ ?_
      refine CW.seq ?_
      refine CW.condP rfl (fun hc41 => ?_) (fun hc41 => ?_)
      · refine CW.skip ?_
        refine QW.then_ ?_
        refine CW.seq ?_
        refine CW.block ?_
        refine CW.seq ?_
        obtain ⟨x2, hx2⟩ : ∃ x, T2[i]? = some x := ⟨_, List.getElem?_eq_getElem (by omega)⟩
        have hx28 := hb2 x2 (List.mem_of_mem_take (by rw [← hT2]; exact List.mem_of_getElem? hx2))
        obtain ⟨p, hpd⟩ : ∃ p, p = x2 % G.length := ⟨_, rfl⟩
        have hp : p < G.length := by rw [hpd]; exact Nat.mod_lt _ (by omega)
        refine CW.region ?_
        refine RG.idxL rfl rfl rfl rfl rfl rfl Try.underlying22 sz_5 ((hrv39.ext hxwl40)) (hx2) (fun p42 hp42b hp42 => ?_)
        refine RG.vl rfl rfl rfl (Ev.ld0 rfl rfl Try.underlying5 rfl (hp42) (rfl)) ?_
        refine RG.vl rfl rfl rfl (Ev.assign rfl rfl) ?_
        refine RG.done ?_
        refine QW.then_ ?_
        refine CW.seq ?_
        refine CW.region ?_
        refine RG.vl rfl rfl rfl (Ev.move rfl rfl) ?_
        refine RG.vl rfl rfl rfl (Ev.to64 rfl rfl Try.underlying5 Try.underlying3 (by omega)) ?_
        refine RG.vl rfl rfl rfl (Ev.move rfl rfl) ?_
        refine RG.vl rfl rfl rfl (Ev.lenL rfl rfl rfl Try.underlying22 (((Own.ext hoG hxwl40).rdl encN_len))) ?_
        refine RG.vl rfl rfl rfl ((Ev.remI rfl rfl rfl (by omega)).conv (congrArg (Value.int .i64) (show (x2 : Int) % ((G.length : Nat) : Int) = (p : Int) by rw [hpd, Int.natCast_emod]))) ?_
        refine RG.vl rfl rfl rfl (Ev.assign rfl rfl) ?_
        refine RG.done ?_
        refine QW.then_ ?_
        refine CW.seq ?_
        refine CW.region ?_
        refine RG.vl rfl rfl rfl (Ev.move rfl rfl) ?_
        refine RG.vl rfl rfl rfl (Ev.move rfl rfl) ?_
        refine RG.idxO rfl rfl rfl rfl rfl rfl Try.underlying49 sz_4 encT_len (hob) (inB_at er hp) (fun g44 hg44 hBg44 hp43b hp43 => ?_)
        refine RG.vl rfl rfl rfl (Ev.ld0 rfl rfl Try.underlying4 rfl (hp43) (rfl)) ?_
        refine RG.vl rfl rfl rfl (Ev.notP rfl rfl) ?_
        refine RG.done ?_
        refine QW.sub (S' := [(4, _), (5, _), (8, _), (9, _), (12, _), (46, _), (47, _), (48, _), (61, _)]) ⟨rfl, rfl, rfl, rfl, rfl, rfl, rfl, rfl, rfl, trivial⟩ ?_
        refine QW.then_ ?_
        refine CW.condP rfl (fun hc45 => ?_) (fun hc45 => ?_)
        · refine CW.seq ?_
          refine CW.region ?_
          refine RG.vl rfl rfl rfl (Ev.move rfl rfl) ?_
          refine RG.vl rfl rfl rfl (Ev.move rfl rfl) ?_
          refine RG.idxO rfl rfl rfl rfl rfl rfl Try.underlying49 sz_4 encT_len (hob) (inB_at er hp) (fun g47 hg47 hBg47 hp46b hp46 => ?_)
          refine RG.stOw0 (g := g47) (true) rfl rfl rfl rfl rfl sz_4 rfl (fun _ => rfl) hob hg47 (inB_at er hp) rfl (rfl) (fun ws48 hwws48 hown49 => ?_)
          replace ho8 := Own.far ho8 hwws48 (fun e => hsp _ hg47 e)
          replace hxwl40 := Wr.below hxwl40 hwws48 hBg47
          refine RG.done ?_
          refine QW.then_ ?_
          refine CW.region ?_
          refine RG.vl rfl rfl rfl (Ev.move rfl rfl) ?_
          refine RG.vl rfl rfl rfl (Ev.move rfl rfl) ?_
          refine RG.litO (os := [.tmp 66]) (enc := encZ) ([p]) rfl rfl rfl rfl rfl rfl rfl Try.underlying23 inf_3 rfl rfl rfl rfl rfl encZ_len rfl rfl (fun v50 wk51 hxwk51 hown52 hnew53 => ?_)
          have hsep54 : Sep v50 _ := Sep.of_new (Own.ext hoG hxwl40) hnew53
          have hsep55 : Sep v50 _ := Sep.of_new ho8 hnew53
          have hsep56 : Sep v50 _ := Sep.of_new hown49 hnew53
          replace hxwl40 := Ex.tr hxwl40 hxwk51
          have hE57 := hxwk51
          refine RG.appO rfl rfl rfl rfl rfl rfl rfl Try.underlying23 inf_3 rfl rfl encZ_len (fun _ => rfl) (Own.ext ho8 hE57) ((hown52.rdl encZ_len)) (by show _ + 1 ≤ maxLen; simp only [maxLen]; omega) (by show (_ + 1) * _ ≤ _; omega) (hxwl40.size) (fun v58 wa59 hown60 hgr61 hat62 => ?_)
          have hsep64 := Sep.app (Sep.symm hsp) (Own.ext hown49 hE57) hat62
          have hown63 := Own.grown (Own.ext hown49 hE57) hgr61 (fun k a b => (Sep.symm hsp) k b a)
          have hsep66 := Sep.app (Sep.symm hsep55) hown52 hat62
          have hown65 := Own.grown hown52 hgr61 (fun k a b => (Sep.symm hsep55) k b a)
          replace hxwl40 := own_block (Own.ext ho8 hE57) hxwl40 hgr61 (Nat.le_refl _) hxwl40.size
          refine RG.vl rfl rfl rfl (Ev.assign rfl rfl) ?_
          refine RG.done ?_
          refine QW.blockN ?_
          refine QW.then_ ?_
          refine CW.region ?_
          refine RG.vl rfl rfl rfl (Ev.addI rfl rfl rfl (by omega)) ?_
          refine RG.vl rfl rfl rfl (Ev.move rfl rfl) ?_
          refine RG.done ?_
          refine QW.round3 (i + 1) ((er ++ [p])) (v58) ⟨rfl, rfl, trivial⟩ ⟨rfl, rfl, rfl, rfl, rfl, trivial⟩ ⟨⟨by omega, (List.nodup_append.2 ⟨hnd, by simp, fun x hx y hy => by rw [List.mem_singleton.1 hy]; rintro rfl; exact absurd hx (by assumption)⟩), fun a ha => by rcases List.mem_append.1 ha with h | h; exact hall a h; rw [List.mem_singleton.1 h]; exact hp, by rw [List.length_append]; simp only [List.length_singleton]; omega, by rw [← inB_set]; exact hown63, hown60, (Sep.symm hsep64)⟩, hxwl40⟩ (by omega)
        · refine CW.skip ?_
          refine QW.blockN ?_
          refine QW.then_ ?_
          refine CW.region ?_
          refine RG.vl rfl rfl rfl (Ev.addI rfl rfl rfl (by omega)) ?_
          refine RG.vl rfl rfl rfl (Ev.move rfl rfl) ?_
          refine RG.done ?_
          refine QW.round3 (i + 1) (er) (v8) ⟨rfl, rfl, trivial⟩ ⟨rfl, rfl, rfl, rfl, rfl, trivial⟩ ⟨⟨by omega, hnd, hall, by omega, hob, ho8, hsp⟩, hxwl40⟩ (by omega)
      · refine CW.exit ?_
        refine QW.thenExit ?_
        refine QW.thenExit ?_
        refine QW.blockHit ?_
        refine QW.then_ ?_
        refine CW.seq ?_
        refine CW.region ?_
        refine RG.vl rfl rfl rfl (Ev.move rfl rfl) ?_
        refine RG.vl rfl rfl rfl (Ev.move rfl rfl) ?_
        refine RG.call rfl rfl rfl rfl rfl rfl rfl en_13 (dec_gen _ _ _ G er (((Own.ext hoG hxwl40).rdl encN_len)) ((ho8.rdl encZ_len)) hWG hnd hall) ?_
        have hpre67 := (Ex.tr hR36 hxwl40)
        rintro _ w67 ⟨A1, B1, C1, D1, c, es, e, rfl, hoc, hoes, hout, hx67⟩
        have hsep68 : Sep (Value.slice A1 c.length B1) _ := Sep.of_new (Own.ext hoG hxwl40) (fun k h => Own.ge hoc h)
        have hsep69 : Sep (Value.slice A1 c.length B1) _ := Sep.of_new hob (fun k h => Own.ge hoc h)
        have hsep70 : Sep (Value.slice A1 c.length B1) _ := Sep.of_new ho8 (fun k h => Own.ge hoc h)
        have hsep71 : Sep (Value.slice C1 es.length D1) _ := Sep.of_new (Own.ext hoG hxwl40) (fun k h => Own.ge hoes h)
        have hsep72 : Sep (Value.slice C1 es.length D1) _ := Sep.of_new hob (fun k h => Own.ge hoes h)
        have hsep73 : Sep (Value.slice C1 es.length D1) _ := Sep.of_new ho8 (fun k h => Own.ge hoes h)
        replace hxwl40 := Ex.tr hxwl40 hx67
        have hE74 := hx67
        refine RG.vl rfl rfl rfl (Ev.move rfl rfl) ?_
        refine RG.vl rfl rfl rfl (Ev.extract rfl rfl rfl) ?_
        refine RG.vl rfl rfl rfl (Ev.extract rfl rfl rfl) ?_
        refine RG.local_ rfl rfl rfl rfl (fun _ => rfl) rfl rfl (fun _ => rfl) inf_28 rfl rfl rfl (fun g75 w75 eg75 hx75 hb75 => ?_)
        have hsb76 := fun e => sep_new (g := g75) (Own.ext hoG hxwl40) eg75 e
        have hsb77 := fun e => sep_new (g := g75) (Own.ext hob hE74) eg75 e
        have hsb78 := fun e => sep_new (g := g75) (Own.ext ho8 hE74) eg75 e
        have hsb79 := fun e => sep_new (g := g75) hoc eg75 e
        have hsb80 := fun e => sep_new (g := g75) hoes eg75 e
        have hle81 : wl18.heap.size ≤ g75 := by have := hxwl40.size; omega
        have hle82 : wl40.heap.size ≤ g75 := by have := hE74.size; omega
        have hle83 : w67.heap.size ≤ g75 := by have := (Ex.rfl_ w67).size; omega
        replace hxwl40 := Ex.tr hxwl40 hx75
        replace hE74 := Ex.tr hE74 hx75
        have hE84 := hx75
        refine RG.vl rfl rfl rfl (Ev.assign rfl rfl) ?_
        refine RG.done ?_
        refine QW.then_ ?_
        refine CW.seq ?_
        refine CW.seq ?_
        rcases hout with ⟨rfl, rfl, rfl, hfar⟩ | ⟨rfl, hnear⟩
        · by_cases h5 : 4 < er.length
          · refine CW.region ?_
            refine RG.vl rfl rfl rfl (Ev.move rfl rfl) ?_
            refine RG.vl rfl rfl rfl (Ev.isT (Ev.neI rfl rfl rfl) (by decide)) ?_
            refine RG.done ?_
            refine QW.then_ ?_
            refine CW.condT rfl ?_
            refine CW.seq ?_
            refine CW.region ?_
            refine RG.vl rfl rfl rfl (Ev.move rfl rfl) ?_
            refine RG.vl rfl rfl rfl (Ev.isT (Ev.eqI rfl rfl rfl) (rfl)) ?_
            refine RG.vl rfl rfl rfl (Ev.move rfl rfl) ?_
            refine RG.vl rfl rfl rfl (Ev.move rfl rfl) ?_
            refine RG.vl rfl rfl rfl (Ev.lenL rfl rfl rfl Try.underlying23 (((Own.ext ho8 hE74).rdl encZ_len))) ?_
            refine RG.vl rfl rfl rfl (Ev.isT (Ev.gtr rfl rfl rfl) (by omega)) ?_
            refine RG.vl rfl rfl rfl (Ev.move rfl rfl) ?_
            refine RG.pass rfl rfl rfl ?_
            refine RG.pass rfl rfl rfl ?_
            refine RG.pass rfl rfl rfl ?_
            refine RG.vl rfl rfl rfl (Ev.pickT rfl rfl rfl) ?_
            refine RG.vl rfl rfl rfl (Ev.pickT rfl rfl rfl) ?_
            refine RG.vl rfl rfl rfl (Ev.move rfl rfl) ?_
            refine RG.call rfl rfl rfl rfl rfl rfl rfl en_10 (awake_ret _) ?_
            rintro _ w85 ⟨rfl, hx85⟩
            replace hxwl40 := Ex.tr hxwl40 hx85
            replace hE74 := Ex.tr hE74 hx85
            replace hE84 := Ex.tr hE84 hx85
            have hE86 := hx85
            refine RG.vl rfl rfl rfl (Ev.pickT rfl rfl rfl) ?_
            refine RG.vl rfl rfl rfl (Ev.assign rfl rfl) ?_
            refine RG.done ?_
            refine QW.sub (S' := [(4, _), (5, _), (8, _), (13, _)]) ⟨rfl, rfl, rfl, rfl, trivial⟩ ?_
            refine QW.then_ ?_
            refine CW.ret ?_
            refine QW.thenRet ?_
            refine QW.ret1 rfl rfl ?_
            have hB := (Ex.tr hR36 hxwl40)
            exact ⟨rfl, hB⟩
          · have hvf : vldB G = false := by
              cases h : vldB G with
              | false => rfl
              | true =>
                rcases hfar with h6 | h6
                · exact absurd h6 h5
                · exact absurd (by rw [diffs_self]; simp only [List.length_nil]; omega) (h6 G ⟨rfl, hGe, (vldB_iff.1 h).2⟩)
            refine CW.region ?_
            refine RG.vl rfl rfl rfl (Ev.move rfl rfl) ?_
            refine RG.vl rfl rfl rfl (Ev.isT (Ev.neI rfl rfl rfl) (by decide)) ?_
            refine RG.done ?_
            refine QW.then_ ?_
            refine CW.condT rfl ?_
            refine CW.seq ?_
            refine CW.region ?_
            refine RG.vl rfl rfl rfl (Ev.move rfl rfl) ?_
            refine RG.vl rfl rfl rfl (Ev.isT (Ev.eqI rfl rfl rfl) (rfl)) ?_
            refine RG.vl rfl rfl rfl (Ev.move rfl rfl) ?_
            refine RG.vl rfl rfl rfl (Ev.move rfl rfl) ?_
            refine RG.vl rfl rfl rfl (Ev.lenL rfl rfl rfl Try.underlying23 (((Own.ext ho8 hE74).rdl encZ_len))) ?_
            refine RG.vl rfl rfl rfl (Ev.isF (Ev.gtr rfl rfl rfl) (by omega)) ?_
            refine RG.vl rfl rfl rfl (Ev.move rfl rfl) ?_
            refine RG.vl rfl rfl rfl (Ev.move rfl rfl) ?_
            refine RG.call rfl rfl rfl rfl rfl rfl rfl en_25 ((by have k := valid_ret _ G _ (((Own.ext hoG hxwl40).rdl encN_len)) (by omega); rw [hvf] at k; exact k)) ?_
            rintro _ w87 ⟨rfl, hx87⟩
            replace hxwl40 := Ex.tr hxwl40 hx87
            replace hE74 := Ex.tr hE74 hx87
            replace hE84 := Ex.tr hE84 hx87
            have hE88 := hx87
            refine RG.vl rfl rfl rfl (Ev.notT rfl rfl) ?_
            refine RG.vl rfl rfl rfl (Ev.pickF rfl rfl rfl) ?_
            refine RG.vl rfl rfl rfl (Ev.pickT rfl rfl rfl) ?_
            refine RG.vl rfl rfl rfl (Ev.move rfl rfl) ?_
            refine RG.call rfl rfl rfl rfl rfl rfl rfl en_10 (awake_ret _) ?_
            rintro _ w89 ⟨rfl, hx89⟩
            replace hxwl40 := Ex.tr hxwl40 hx89
            replace hE74 := Ex.tr hE74 hx89
            replace hE84 := Ex.tr hE84 hx89
            replace hE88 := Ex.tr hE88 hx89
            have hE90 := hx89
            refine RG.vl rfl rfl rfl (Ev.pickT rfl rfl rfl) ?_
            refine RG.vl rfl rfl rfl (Ev.assign rfl rfl) ?_
            refine RG.done ?_
            refine QW.sub (S' := [(4, _), (5, _), (8, _), (13, _)]) ⟨rfl, rfl, rfl, rfl, trivial⟩ ?_
            refine QW.then_ ?_
            refine CW.ret ?_
            refine QW.thenRet ?_
            refine QW.ret1 rfl rfl ?_
            have hB := (Ex.tr hR36 hxwl40)
            exact ⟨rfl, hB⟩
        · have hcl := hnear.code.len
          have hCc : Code_ c.length c := by rw [hcl]; exact hnear.code
          have hvc : vldB c = true := vld_code hCc (by omega) (by omega)
          refine CW.region ?_
          refine RG.vl rfl rfl rfl (Ev.move rfl rfl) ?_
          refine RG.vl rfl rfl rfl (Ev.isF (Ev.neI rfl rfl rfl) (fun h => h rfl)) ?_
          refine RG.done ?_
          refine QW.then_ ?_
          refine CW.condF rfl ?_
          refine CW.skip ?_
          refine QW.then_ ?_
          refine CW.seq ?_
          refine CW.region ?_
          refine RG.vl rfl rfl rfl (Ev.fld rfl rfl fld_28_0) ?_
          refine RG.vl rfl rfl rfl (Ev.ldAt rfl rfl Try.underlying22 rfl (hb75.cells) (rfl)) ?_
          refine RG.call rfl rfl rfl rfl rfl rfl rfl en_13 (dec_is _ _ _ c [] c [] (((Own.ext hoc hE84).rdl encN_len)) (RdL.nil_ _) (vldB_iff.1 hvc).1 ⟨by simp, List.nodup_nil⟩ (by decide) hCc (diffs_self _ _) (by decide)) ?_
          have hpre91 := (Ex.tr hR36 hxwl40)
          rintro _ w91 ⟨A91, B91, C91, D91, rfl, hor91, hoe91, hx91⟩
          have hsep92 : Sep (Value.slice A91 c.length B91) _ := Sep.of_new (Own.ext hoG hxwl40) (fun k h => Own.ge hor91 h)
          have hsep93 : Sep (Value.slice A91 c.length B91) _ := Sep.of_new (Own.ext hob hE74) (fun k h => Own.ge hor91 h)
          have hsep94 : Sep (Value.slice A91 c.length B91) _ := Sep.of_new (Own.ext ho8 hE74) (fun k h => Own.ge hor91 h)
          have hsep95 : Sep (Value.slice A91 c.length B91) _ := Sep.of_new (Own.ext hoc hE84) (fun k h => Own.ge hor91 h)
          have hsep96 : Sep (Value.slice A91 c.length B91) _ := Sep.of_new (Own.ext hoes hE84) (fun k h => Own.ge hor91 h)
          have hsep97 : Sep (Value.slice C91 ([] : List Nat).length D91) _ := Sep.of_new (Own.ext hoG hxwl40) (fun k h => Own.ge hoe91 h)
          have hsep98 : Sep (Value.slice C91 ([] : List Nat).length D91) _ := Sep.of_new (Own.ext hob hE74) (fun k h => Own.ge hoe91 h)
          have hsep99 : Sep (Value.slice C91 ([] : List Nat).length D91) _ := Sep.of_new (Own.ext ho8 hE74) (fun k h => Own.ge hoe91 h)
          have hsep100 : Sep (Value.slice C91 ([] : List Nat).length D91) _ := Sep.of_new (Own.ext hoc hE84) (fun k h => Own.ge hoe91 h)
          have hsep101 : Sep (Value.slice C91 ([] : List Nat).length D91) _ := Sep.of_new (Own.ext hoes hE84) (fun k h => Own.ge hoe91 h)
          replace hxwl40 := Ex.tr hxwl40 hx91
          replace hE74 := Ex.tr hE74 hx91
          replace hE84 := Ex.tr hE84 hx91
          have hE102 := hx91
          refine RG.vl rfl rfl rfl (Ev.move rfl rfl) ?_
          refine RG.vl rfl rfl rfl (Ev.extract rfl rfl rfl) ?_
          refine RG.vl rfl rfl rfl (Ev.extract rfl rfl rfl) ?_
          refine RG.local_ rfl rfl rfl rfl (fun _ => rfl) rfl rfl (fun _ => rfl) inf_28 rfl rfl rfl (fun g103 w103 eg103 hx103 hb103 => ?_)
          have hsb104 := fun e => sep_new (g := g103) (Own.ext hoG hxwl40) eg103 e
          have hsb105 := fun e => sep_new (g := g103) (Own.ext hob hE74) eg103 e
          have hsb106 := fun e => sep_new (g := g103) (Own.ext ho8 hE74) eg103 e
          have hsb107 := fun e => sep_new (g := g103) (Own.ext hoc hE84) eg103 e
          have hsb108 := fun e => sep_new (g := g103) (Own.ext hoes hE84) eg103 e
          have hsb109 := fun e => sep_new (g := g103) hor91 eg103 e
          have hsb110 := fun e => sep_new (g := g103) hoe91 eg103 e
          have hle111 : wl18.heap.size ≤ g103 := by have := hxwl40.size; omega
          have hle112 : wl40.heap.size ≤ g103 := by have := hE74.size; omega
          have hle113 : w67.heap.size ≤ g103 := by have := hE84.size; omega
          have hle114 : w75.heap.size ≤ g103 := by have := hE102.size; omega
          have hle115 : w91.heap.size ≤ g103 := by have := (Ex.rfl_ w91).size; omega
          have hlt116 : g75 < g103 := by have := Blk.lt (hb75.ext hE102); omega
          replace hxwl40 := Ex.tr hxwl40 hx103
          replace hE74 := Ex.tr hE74 hx103
          replace hE84 := Ex.tr hE84 hx103
          replace hE102 := Ex.tr hE102 hx103
          have hE117 := hx103
          refine RG.vl rfl rfl rfl (Ev.assign rfl rfl) ?_
          refine RG.done ?_
          refine QW.sub (S' := [(4, _), (5, _), (8, _), (13, _), (15, _), (16, _)]) ⟨rfl, rfl, rfl, rfl, rfl, rfl, trivial⟩ ?_
          refine QW.then_ ?_
          refine CW.seq ?_
          refine CW.region ?_
          refine RG.vl rfl rfl rfl (Ev.move rfl rfl) ?_
          refine RG.vl rfl rfl rfl (Ev.move rfl rfl) ?_
          refine RG.vl rfl rfl rfl (Ev.ldAgg rfl rfl Try.underlying28 rfl sz_28 rfl ((hb75.ext hE102).cells)) ?_
          refine RG.call rfl rfl rfl rfl rfl rfl rfl en_30 (within_ret _ _ G er c es A1 C1 B1 D1 _ (((Own.ext hoG hxwl40).rdl encN_len)) (((Own.ext ho8 hE74).rdl encZ_len)) ((Own.ext hoc hE84).rdl encN_len) ((Own.ext hoes hE84).rdl encZ_len) hvc hcl hall hnear.told hnear.bound) ?_
          rintro _ w118 ⟨rfl, hx118⟩
          replace hxwl40 := Ex.tr hxwl40 hx118
          replace hE74 := Ex.tr hE74 hx118
          replace hE84 := Ex.tr hE84 hx118
          replace hE102 := Ex.tr hE102 hx118
          replace hE117 := Ex.tr hE117 hx118
          have hE119 := hx118
          refine RG.vl rfl rfl rfl (Ev.move rfl rfl) ?_
          refine RG.vl rfl rfl rfl (Ev.move rfl rfl) ?_
          refine RG.vl rfl rfl rfl (Ev.isT (Ev.eqI rfl rfl rfl) (rfl)) ?_
          refine RG.vl rfl rfl rfl (Ev.pickT rfl rfl rfl) ?_
          refine RG.vl rfl rfl rfl (Ev.move rfl rfl) ?_
          refine RG.vl rfl rfl rfl (Ev.fld rfl rfl fld_28_0) ?_
          refine RG.vl rfl rfl rfl (Ev.ldAt rfl rfl Try.underlying22 rfl ((hb103.ext hE119).cells) (rfl)) ?_
          refine RG.vl rfl rfl rfl (Ev.fld rfl rfl fld_28_0) ?_
          refine RG.vl rfl rfl rfl (Ev.ldAt rfl rfl Try.underlying22 rfl ((hb75.ext hE102).cells) (rfl)) ?_
          refine RG.call rfl rfl rfl rfl rfl rfl rfl en_19 (sameBt_ret _ _ c _ (((Own.ext hor91 hE117).rdl encN_len)) (((Own.ext hoc hE84).rdl encN_len)) (by omega)) ?_
          rintro _ w120 ⟨rfl, hx120⟩
          replace hxwl40 := Ex.tr hxwl40 hx120
          replace hE74 := Ex.tr hE74 hx120
          replace hE84 := Ex.tr hE84 hx120
          replace hE102 := Ex.tr hE102 hx120
          replace hE117 := Ex.tr hE117 hx120
          replace hE119 := Ex.tr hE119 hx120
          have hE121 := hx120
          refine RG.vl rfl rfl rfl (Ev.pickT rfl rfl rfl) ?_
          refine RG.vl rfl rfl rfl (Ev.move rfl rfl) ?_
          refine RG.vl rfl rfl rfl (Ev.fld rfl rfl fld_28_1) ?_
          refine RG.vl rfl rfl rfl (Ev.ldAt rfl rfl Try.underlying23 rfl ((hb103.ext hE119).cells) (rfl)) ?_
          refine RG.vl rfl rfl rfl (Ev.lenSlice rfl rfl rfl Try.underlying23) ?_
          refine RG.vl rfl rfl rfl (Ev.isT (Ev.eqI rfl rfl rfl) (rfl)) ?_
          refine RG.vl rfl rfl rfl (Ev.pickT rfl rfl rfl) ?_
          refine RG.vl rfl rfl rfl (Ev.move rfl rfl) ?_
          refine RG.call rfl rfl rfl rfl rfl rfl rfl en_10 (awake_ret _) ?_
          rintro _ w122 ⟨rfl, hx122⟩
          replace hxwl40 := Ex.tr hxwl40 hx122
          replace hE74 := Ex.tr hE74 hx122
          replace hE84 := Ex.tr hE84 hx122
          replace hE102 := Ex.tr hE102 hx122
          replace hE117 := Ex.tr hE117 hx122
          replace hE119 := Ex.tr hE119 hx122
          replace hE121 := Ex.tr hE121 hx122
          have hE123 := hx122
          refine RG.vl rfl rfl rfl (Ev.pickT rfl rfl rfl) ?_
          refine RG.vl rfl rfl rfl (Ev.assign rfl rfl) ?_
          refine RG.done ?_
          refine QW.sub (S' := [(4, _)]) ⟨rfl, trivial⟩ ?_
          refine QW.then_ ?_
          refine CW.ret ?_
          refine QW.ret1 rfl rfl ?_
          have hB := (Ex.tr hR36 hxwl40)
          exact ⟨rfl, hB⟩

end Go.Proofs.Ytjhgihgggofocaa
