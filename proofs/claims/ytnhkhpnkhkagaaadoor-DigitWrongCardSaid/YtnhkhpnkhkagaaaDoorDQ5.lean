/- Walks (DQ5). Written by program. -/
import Derived.Test.YtnhkhpnkhkagaaaDoorT
import Derived.Test.YtnhkhpnkhkagaaaDoorDY
namespace Go.Proofs.YtnhkhpnkhkagaaaDoor
open Go.RowKit
set_option maxRecDepth 100000 in
set_option maxHeartbeats 16000000 in
theorem digitWrong_ret (kd : Nat) (mv lv : Value) (m l : List UInt8) (c : UInt8) (w : World) (hm : RdL w 1 encB mv m) (hl : RdL w 1 encB lv l) (hk : kd < 256) :
    Ret Tryd.prog 11 [.int .u8 (kd : Int), mv, lv, .int .u8 c.toNat] w (fun v w' => v = .bool true ∧ Ex w w') := by
  obtain ⟨mA, mC, rfl⟩ := hm.shape
  obtain ⟨lA, lC, rfl⟩ := hl.shape
  have hB0 : Ex w w := Ex.rfl_ _
  refine Ret.of Tryd.func11 rfl Tryd.ntmps11 rfl ?_
  refine CW.seq ?_
  refine CW.region ?_
  refine RG.vl rfl rfl rfl (Ev.assign rfl rfl) ?_
  refine RG.done ?_
  refine QW.then_ ?_
  refine CW.seq ?_
  refine CW.region ?_
  refine RG.vl rfl rfl rfl (Ev.move rfl rfl) ?_
  refine RG.vl rfl rfl rfl (Ev.move rfl rfl) ?_
  refine RG.call rfl rfl rfl rfl rfl rfl rfl en_18 (any_ret kd _ m _ hm hk) ?_
  rintro _ w1 ⟨k, ws, wv, rfl, hws, hr, hx1⟩
  have hE2 := hx1
  replace hws := Own.rdl hws encI_len
  obtain ⟨wA, wC, rfl⟩ := hws.shape
  have hwl : ws.length ≤ 100000 := right_len10 hr
  refine RG.local_ rfl rfl rfl rfl (fun _ => rfl) rfl rfl (fun _ => rfl) inf_24 rfl rfl rfl (fun g3 w3 eg3 hx3 hb3 => ?_)
  have hle4 : w.heap.size ≤ g3 := by have := hE2.size; omega
  have hle5 : w1.heap.size ≤ g3 := by have := (Ex.rfl_ w1).size; omega
  replace hE2 := Ex.tr hE2 hx3
  have hE6 := hx3
  refine RG.done ?_
  refine QW.then_ ?_
  refine CW.seq ?_
  refine CW.region ?_
  refine RG.vl rfl rfl rfl (Ev.move rfl rfl) ?_
  refine RG.call rfl rfl rfl rfl rfl rfl rfl en_19 (payload_ret _ l _ (hl.ext hE2)) ?_
  rintro _ w7 ⟨rfl, hx7⟩
  replace hE2 := Ex.tr hE2 hx7
  replace hE6 := Ex.tr hE6 hx7
  have hE8 := hx7
  refine RG.vl rfl rfl rfl (Ev.assign rfl rfl) ?_
  refine RG.done ?_
  refine QW.then_ ?_
  refine CW.seq ?_
  obtain ⟨hD1, hD2⟩ := payL_len l
  have hDp := payL_pay l
  generalize payL l = D at *
  have hDs := sbytes D
  have hbd := right_bad hr
  have hwl3 : ws.length ≤ 10000 := right_len4 hr
  refine CW.region ?_
  refine RG.vl rfl rfl rfl (Ev.assign rfl rfl) ?_
  refine RG.done ?_
  refine QW.then_ ?_
  refine CW.seq ?_
  have hn0 : ([] : List Int).length = 0 := rfl
  have hn1 : (([] : List Int) ++ ws).length = ws.length := rfl
  replace hm := (hm.ext hE2)
  replace hl := (hl.ext hE2)
  replace hws := (hws.ext hE6)
  replace hb3 := (hb3.ext hE8)
  have hR9 := (Ex.tr hB0 hE2)
  have hR10 := hE8
  refine CW.cut2 [(3, _), (8, _), (9, _), (10, _), (11, _)] ⟨rfl, rfl, rfl, rfl, rfl, trivial⟩ (fun (g : Nat) (b : Value) => [(12, .pointer (some ⟨g, 0, none⟩))]) (fun g b w' => (Blk w' g 24 [.int .u8 (k : Int), b] ∧ RdL w' 1 encI b (ws ++ [11])) ∧ Ex w7 w') ?_ ?_
  · have hn0 : ([] : List Int).length = 0 := rfl
    have hn1 : (([] : List Int) ++ ws).length = ws.length := rfl
    refine CW.draw [] (.low w7.heap.size) 11 rfl mixed (fun wd12 hxwd12 => ?_)
    have hE13 := hxwd12
    refine AG.takeW 0 rfl (by kernel_rfl) (by kernel_rfl) rfl rfl rfl (fun _ => Ev.fld rfl rfl fld_24_0) ?_
    refine AG.take 1 rfl (by kernel_rfl) (by kernel_rfl) rfl rfl rfl (fun wq hq => Ev.ldAt rfl rfl Tryd.underlying5 rfl ((Blk.low (hb3.ext hE13) hq (Blk.lt hb3)).cells) (rfl)) ?_
    refine AG.takeW 3 rfl (by kernel_rfl) (by kernel_rfl) rfl rfl rfl (fun _ => Ev.fld rfl rfl fld_24_1) ?_
    refine AG.take 4 rfl (by kernel_rfl) (by kernel_rfl) rfl rfl rfl (fun wq hq => Ev.ldAt rfl rfl Tryd.underlying22 rfl ((Blk.low (hb3.ext hE13) hq (Blk.lt hb3)).cells) (rfl)) ?_
    refine AG.three 2 6 9 rfl rfl rfl (by kernel_rfl) ?_ ?_ ?_
    · refine RG.build0O (enc := encI) rfl rfl rfl rfl rfl Tryd.underlying22 sz_3 (fun v15 wk16 hxwk16 hown17 hnew18 => ?_)
      have hsb19 := fun e => sep_blk (hb3.ext hE13) (Nat.le_refl _) hown17 e
      replace hown17 := Own.low (B' := w7.heap.size) hown17 (by have := hE13.size; omega)
      replace hE13 := Ex.tr hE13 hxwk16
      have hE20 := hxwk16
      refine RG.done ?_
      refine QW.an (fun _ => Rr.of_ex hE20) ?_
      refine AG.three 5 6 9 rfl rfl rfl (by kernel_rfl) ?_ ?_ ?_
      · refine RG.appO rfl rfl rfl rfl rfl rfl rfl Tryd.underlying22 inf_3 rfl rfl encI_len (fun _ => rfl) hown17 ((hws.ext hE13)) (by simp only [maxLen]; omega) (by omega) (hE13.size) (fun v22 wa23 hown24 hgr25 hat26 => ?_)
        replace hE13 := own_block hown17 hE13 hgr25 (Nat.le_refl _) hE13.size
        refine RG.done ?_
        refine QW.an (fun _ => Rr.low_own hown17 hgr25 (Nat.le_refl _)) ?_
        refine AG.two 6 9 rfl rfl (by kernel_rfl) ?_ ?_
        · refine RG.litO (os := [_]) (enc := encI) ([11]) rfl rfl rfl rfl rfl rfl rfl Tryd.underlying22 inf_3 rfl rfl rfl rfl rfl encI_len rfl rfl (fun v28 wk29 hxwk29 hown30 hnew31 => ?_)
          have hsep32 : Sep v28 _ := Sep.of_new hown24 hnew31
          have hsb33 := fun e => sep_blk (hb3.ext hE13) (Nat.le_refl _) hown30 e
          replace hown30 := Own.low (B' := w7.heap.size) hown30 (by have := hE13.size; omega)
          replace hE13 := Ex.tr hE13 hxwk29
          have hE34 := hxwk29
          refine RG.done ?_
          refine QW.an (fun _ => Rr.of_ex hE34) ?_
          refine AG.two 7 9 rfl rfl (by kernel_rfl) ?_ ?_
          · refine RG.appO rfl rfl rfl rfl rfl rfl rfl Tryd.underlying22 inf_3 rfl rfl encI_len (fun _ => rfl) (Own.ext hown24 hE34) ((hown30.rdl encI_len)) (by show _ + 1 ≤ maxLen; simp only [maxLen]; omega) (by show (_ + 1) * _ ≤ _; omega) (hE13.size) (fun v36 wa37 hown38 hgr39 hat40 => ?_)
            have hsep42 := Sep.app (Sep.symm hsep32) hown30 hat40
            have hown41 := Own.grown hown30 hgr39 (fun k a b => (Sep.symm hsep32) k b a)
            replace hE13 := own_block (Own.ext hown24 hE34) hE13 hgr39 (Nat.le_refl _) hE13.size
            obtain ⟨Av36, Cv36, rfl⟩ := hown38.shape
            refine RG.done ?_
            refine QW.an (fun _ => Rr.low_own (Own.ext hown24 hE34) hgr39 (Nat.le_refl _)) ?_
            refine AG.takeW 8 rfl (by kernel_rfl) (by kernel_rfl) rfl rfl rfl (fun _ => Ev.build1 rfl rfl rfl inf_24 rfl rfl (by kernel_rfl) rfl) ?_
            refine AG.only 9 rfl (by kernel_rfl) ?_
            refine RG.alloc_ rfl rfl rfl rfl inf_24 (fun g44 w44 eg44 hx44 hb44 => ?_)
            have hsb45 := fun e => sep_new (g := g44) hown41 eg44 e
            have hsb46 := fun e => sep_new (g := g44) hown38 eg44 e
            have hle47 : w7.heap.size ≤ g44 := by have := hE13.size; omega
            have hle48 : wa37.heap.size ≤ g44 := by have := (Ex.rfl_ wa37).size; omega
            have hlt49 : g3 < g44 := by have := Blk.lt (hb3.ext hE13); omega
            replace hE13 := Ex.tr hE13 hx44
            have hE50 := hx44
            refine RG.done ?_
            refine QW.an (fun _ => Rr.of_ex hE50) ?_
            refine AG.only 10 rfl (by kernel_rfl) ?_
            refine RG.stAll (g := g44) rfl rfl rfl rfl rfl sz_24 rfl rfl rfl hb44 (fun ws52 hwws52 hbws52 => ?_)
            replace hE13 := Wr.below hE13 hwws52 hle47
            replace hE50 := Wr.below hE50 hwws52 hle48
            refine RG.done ?_
            refine QW.an (fun _ => Rr.low_wr hwws52 hle47) ?_
            refine AG.done (by kernel_rfl) ?_
            refine QW.sub (S' := [(3, _), (8, _), (9, _), (10, _), (11, _), (12, _)]) ⟨rfl, rfl, rfl, rfl, rfl, rfl, trivial⟩ ?_
            refine QW.meet2 (g44) ((Value.slice Av36 _ Cv36)) ⟨rfl, trivial⟩ ⟨rfl, rfl, rfl, rfl, rfl, trivial⟩ ⟨⟨hbws52, Own.rdl (Own.ext hown38 hE50) encI_len⟩, hE13⟩
          · refine RG.alloc_ rfl rfl rfl rfl inf_24 (fun g54 w54 eg54 hx54 hb54 => ?_)
            have hsb55 := fun e => sep_new (g := g54) (Own.ext hown24 hE34) eg54 e
            have hsb56 := fun e => sep_new (g := g54) hown30 eg54 e
            have hle57 : w7.heap.size ≤ g54 := by have := hE13.size; omega
            have hle58 : wa23.heap.size ≤ g54 := by have := hE34.size; omega
            have hle59 : wk29.heap.size ≤ g54 := by have := (Ex.rfl_ wk29).size; omega
            have hlt60 : g3 < g54 := by have := Blk.lt (hb3.ext hE13); omega
            replace hE13 := Ex.tr hE13 hx54
            replace hE34 := Ex.tr hE34 hx54
            have hE61 := hx54
            refine RG.done ?_
            refine QW.an (fun _ => Rr.of_ex hE61) ?_
            refine AG.only 7 rfl (by kernel_rfl) ?_
            refine RG.appO rfl rfl rfl rfl rfl rfl rfl Tryd.underlying22 inf_3 rfl rfl encI_len (fun _ => rfl) (Own.ext hown24 hE34) (((Own.ext hown30 hE61).rdl encI_len)) (by show _ + 1 ≤ maxLen; simp only [maxLen]; omega) (by show (_ + 1) * _ ≤ _; omega) (hE13.size) (fun v63 wa64 hown65 hgr66 hat67 => ?_)
            have hsep69 := Sep.app (Sep.symm hsep32) (Own.ext hown30 hE61) hat67
            have hown68 := Own.grown (Own.ext hown30 hE61) hgr66 (fun k a b => (Sep.symm hsep32) k b a)
            have hb70 := Blk.grown hb54 hgr66 (fun e => hsb55 e.symm)
            have hsb71 := sepb_app hsb55 hb54 hat67
            replace hE13 := own_block (Own.ext hown24 hE34) hE13 hgr66 (Nat.le_refl _) hE13.size
            obtain ⟨Av63, Cv63, rfl⟩ := hown65.shape
            refine RG.done ?_
            refine QW.an (fun _ => Rr.low_own (Own.ext hown24 hE34) hgr66 (Nat.le_refl _)) ?_
            refine AG.takeW 8 rfl (by kernel_rfl) (by kernel_rfl) rfl rfl rfl (fun _ => Ev.build1 rfl rfl rfl inf_24 rfl rfl (by kernel_rfl) rfl) ?_
            refine AG.only 10 rfl (by kernel_rfl) ?_
            refine RG.stAll (g := g54) rfl rfl rfl rfl rfl sz_24 rfl rfl rfl hb70 (fun ws73 hwws73 hbws73 => ?_)
            replace hown68 := Own.far hown68 hwws73 hsb56
            replace hown65 := Own.far hown65 hwws73 hsb71
            replace hE13 := Wr.below hE13 hwws73 hle57
            refine RG.done ?_
            refine QW.an (fun _ => Rr.low_wr hwws73 hle57) ?_
            refine AG.done (by kernel_rfl) ?_
            refine QW.sub (S' := [(3, _), (8, _), (9, _), (10, _), (11, _), (12, _)]) ⟨rfl, rfl, rfl, rfl, rfl, rfl, trivial⟩ ?_
            refine QW.meet2 (g54) ((Value.slice Av63 _ Cv63)) ⟨rfl, trivial⟩ ⟨rfl, rfl, rfl, rfl, rfl, trivial⟩ ⟨⟨hbws73, Own.rdl hown65 encI_len⟩, hE13⟩
        · refine RG.alloc_ rfl rfl rfl rfl inf_24 (fun g75 w75 eg75 hx75 hb75 => ?_)
          have hsb76 := fun e => sep_new (g := g75) hown24 eg75 e
          have hle77 : w7.heap.size ≤ g75 := by have := hE13.size; omega
          have hle78 : wa23.heap.size ≤ g75 := by have := (Ex.rfl_ wa23).size; omega
          have hlt79 : g3 < g75 := by have := Blk.lt (hb3.ext hE13); omega
          replace hE13 := Ex.tr hE13 hx75
          have hE80 := hx75
          refine RG.done ?_
          refine QW.an (fun _ => Rr.of_ex hE80) ?_
          refine AG.only 6 rfl (by kernel_rfl) ?_
          refine RG.litO (os := [_]) (enc := encI) ([11]) rfl rfl rfl rfl rfl rfl rfl Tryd.underlying22 inf_3 rfl rfl rfl rfl rfl encI_len rfl rfl (fun v82 wk83 hxwk83 hown84 hnew85 => ?_)
          have hsep86 : Sep v82 _ := Sep.of_new (Own.ext hown24 hE80) hnew85
          have hsb87 := fun e => sep_blk (hb3.ext hE13) (Nat.le_refl _) hown84 e
          have hsb88 := fun e => sep_blk hb75 (Nat.le_refl _) hown84 e
          replace hown84 := Own.low (B' := w7.heap.size) hown84 (by have := hE13.size; omega)
          replace hE13 := Ex.tr hE13 hxwk83
          replace hE80 := Ex.tr hE80 hxwk83
          have hE89 := hxwk83
          refine RG.done ?_
          refine QW.an (fun _ => Rr.of_ex hE89) ?_
          refine AG.only 7 rfl (by kernel_rfl) ?_
          refine RG.appO rfl rfl rfl rfl rfl rfl rfl Tryd.underlying22 inf_3 rfl rfl encI_len (fun _ => rfl) (Own.ext hown24 hE80) ((hown84.rdl encI_len)) (by show _ + 1 ≤ maxLen; simp only [maxLen]; omega) (by show (_ + 1) * _ ≤ _; omega) (hE13.size) (fun v91 wa92 hown93 hgr94 hat95 => ?_)
          have hb96 := Blk.grown (hb75.ext hE89) hgr94 (fun e => hsb76 e.symm)
          have hsb97 := sepb_app hsb76 (hb75.ext hE89) hat95
          have hsep99 := Sep.app (Sep.symm hsep86) hown84 hat95
          have hown98 := Own.grown hown84 hgr94 (fun k a b => (Sep.symm hsep86) k b a)
          replace hE13 := own_block (Own.ext hown24 hE80) hE13 hgr94 (Nat.le_refl _) hE13.size
          obtain ⟨Av91, Cv91, rfl⟩ := hown93.shape
          refine RG.done ?_
          refine QW.an (fun _ => Rr.low_own (Own.ext hown24 hE80) hgr94 (Nat.le_refl _)) ?_
          refine AG.takeW 8 rfl (by kernel_rfl) (by kernel_rfl) rfl rfl rfl (fun _ => Ev.build1 rfl rfl rfl inf_24 rfl rfl (by kernel_rfl) rfl) ?_
          refine AG.only 10 rfl (by kernel_rfl) ?_
          refine RG.stAll (g := g75) rfl rfl rfl rfl rfl sz_24 rfl rfl rfl hb96 (fun ws101 hwws101 hbws101 => ?_)
          replace hown98 := Own.far hown98 hwws101 hsb88
          replace hown93 := Own.far hown93 hwws101 hsb97
          replace hE13 := Wr.below hE13 hwws101 hle77
          refine RG.done ?_
          refine QW.an (fun _ => Rr.low_wr hwws101 hle77) ?_
          refine AG.done (by kernel_rfl) ?_
          refine QW.sub (S' := [(3, _), (8, _), (9, _), (10, _), (11, _), (12, _)]) ⟨rfl, rfl, rfl, rfl, rfl, rfl, trivial⟩ ?_
          refine QW.meet2 (g75) ((Value.slice Av91 _ Cv91)) ⟨rfl, trivial⟩ ⟨rfl, rfl, rfl, rfl, rfl, trivial⟩ ⟨⟨hbws101, Own.rdl hown93 encI_len⟩, hE13⟩
      · refine RG.litO (os := [_]) (enc := encI) ([11]) rfl rfl rfl rfl rfl rfl rfl Tryd.underlying22 inf_3 rfl rfl rfl rfl rfl encI_len rfl rfl (fun v103 wk104 hxwk104 hown105 hnew106 => ?_)
        have hsep107 : Sep v103 _ := Sep.of_new hown17 hnew106
        have hsb108 := fun e => sep_blk (hb3.ext hE13) (Nat.le_refl _) hown105 e
        replace hown105 := Own.low (B' := w7.heap.size) hown105 (by have := hE13.size; omega)
        replace hE13 := Ex.tr hE13 hxwk104
        replace hE20 := Ex.tr hE20 hxwk104
        have hE109 := hxwk104
        refine RG.done ?_
        refine QW.an (fun _ => Rr.of_ex hE109) ?_
        refine AG.two 5 9 rfl rfl (by kernel_rfl) ?_ ?_
        · refine RG.appO rfl rfl rfl rfl rfl rfl rfl Tryd.underlying22 inf_3 rfl rfl encI_len (fun _ => rfl) (Own.ext hown17 hE109) ((hws.ext hE13)) (by simp only [maxLen]; omega) (by omega) (hE13.size) (fun v111 wa112 hown113 hgr114 hat115 => ?_)
          have hsep117 := Sep.app (Sep.symm hsep107) hown105 hat115
          have hown116 := Own.grown hown105 hgr114 (fun k a b => (Sep.symm hsep107) k b a)
          replace hE13 := own_block (Own.ext hown17 hE109) hE13 hgr114 (Nat.le_refl _) hE13.size
          refine RG.done ?_
          refine QW.an (fun _ => Rr.low_own (Own.ext hown17 hE109) hgr114 (Nat.le_refl _)) ?_
          refine AG.two 7 9 rfl rfl (by kernel_rfl) ?_ ?_
          · refine RG.appO rfl rfl rfl rfl rfl rfl rfl Tryd.underlying22 inf_3 rfl rfl encI_len (fun _ => rfl) hown113 ((hown116.rdl encI_len)) (by show _ + 1 ≤ maxLen; simp only [maxLen]; omega) (by show (_ + 1) * _ ≤ _; omega) (hE13.size) (fun v119 wa120 hown121 hgr122 hat123 => ?_)
            have hsep125 := Sep.app hsep117 hown116 hat123
            have hown124 := Own.grown hown116 hgr122 (fun k a b => hsep117 k b a)
            replace hE13 := own_block hown113 hE13 hgr122 (Nat.le_refl _) hE13.size
            obtain ⟨Av119, Cv119, rfl⟩ := hown121.shape
            refine RG.done ?_
            refine QW.an (fun _ => Rr.low_own hown113 hgr122 (Nat.le_refl _)) ?_
            refine AG.takeW 8 rfl (by kernel_rfl) (by kernel_rfl) rfl rfl rfl (fun _ => Ev.build1 rfl rfl rfl inf_24 rfl rfl (by kernel_rfl) rfl) ?_
            refine AG.only 9 rfl (by kernel_rfl) ?_
            refine RG.alloc_ rfl rfl rfl rfl inf_24 (fun g127 w127 eg127 hx127 hb127 => ?_)
            have hsb128 := fun e => sep_new (g := g127) hown124 eg127 e
            have hsb129 := fun e => sep_new (g := g127) hown121 eg127 e
            have hle130 : w7.heap.size ≤ g127 := by have := hE13.size; omega
            have hle131 : wa120.heap.size ≤ g127 := by have := (Ex.rfl_ wa120).size; omega
            have hlt132 : g3 < g127 := by have := Blk.lt (hb3.ext hE13); omega
            replace hE13 := Ex.tr hE13 hx127
            have hE133 := hx127
            refine RG.done ?_
            refine QW.an (fun _ => Rr.of_ex hE133) ?_
            refine AG.only 10 rfl (by kernel_rfl) ?_
            refine RG.stAll (g := g127) rfl rfl rfl rfl rfl sz_24 rfl rfl rfl hb127 (fun ws135 hwws135 hbws135 => ?_)
            replace hE13 := Wr.below hE13 hwws135 hle130
            replace hE133 := Wr.below hE133 hwws135 hle131
            refine RG.done ?_
            refine QW.an (fun _ => Rr.low_wr hwws135 hle130) ?_
            refine AG.done (by kernel_rfl) ?_
            refine QW.sub (S' := [(3, _), (8, _), (9, _), (10, _), (11, _), (12, _)]) ⟨rfl, rfl, rfl, rfl, rfl, rfl, trivial⟩ ?_
            refine QW.meet2 (g127) ((Value.slice Av119 _ Cv119)) ⟨rfl, trivial⟩ ⟨rfl, rfl, rfl, rfl, rfl, trivial⟩ ⟨⟨hbws135, Own.rdl (Own.ext hown121 hE133) encI_len⟩, hE13⟩
          · refine RG.alloc_ rfl rfl rfl rfl inf_24 (fun g137 w137 eg137 hx137 hb137 => ?_)
            have hsb138 := fun e => sep_new (g := g137) hown116 eg137 e
            have hsb139 := fun e => sep_new (g := g137) hown113 eg137 e
            have hle140 : w7.heap.size ≤ g137 := by have := hE13.size; omega
            have hle141 : wa112.heap.size ≤ g137 := by have := (Ex.rfl_ wa112).size; omega
            have hlt142 : g3 < g137 := by have := Blk.lt (hb3.ext hE13); omega
            replace hE13 := Ex.tr hE13 hx137
            have hE143 := hx137
            refine RG.done ?_
            refine QW.an (fun _ => Rr.of_ex hE143) ?_
            refine AG.only 7 rfl (by kernel_rfl) ?_
            refine RG.appO rfl rfl rfl rfl rfl rfl rfl Tryd.underlying22 inf_3 rfl rfl encI_len (fun _ => rfl) (Own.ext hown113 hE143) (((Own.ext hown116 hE143).rdl encI_len)) (by show _ + 1 ≤ maxLen; simp only [maxLen]; omega) (by show (_ + 1) * _ ≤ _; omega) (hE13.size) (fun v145 wa146 hown147 hgr148 hat149 => ?_)
            have hsep151 := Sep.app hsep117 (Own.ext hown116 hE143) hat149
            have hown150 := Own.grown (Own.ext hown116 hE143) hgr148 (fun k a b => hsep117 k b a)
            have hb152 := Blk.grown hb137 hgr148 (fun e => hsb139 e.symm)
            have hsb153 := sepb_app hsb139 hb137 hat149
            replace hE13 := own_block (Own.ext hown113 hE143) hE13 hgr148 (Nat.le_refl _) hE13.size
            obtain ⟨Av145, Cv145, rfl⟩ := hown147.shape
            refine RG.done ?_
            refine QW.an (fun _ => Rr.low_own (Own.ext hown113 hE143) hgr148 (Nat.le_refl _)) ?_
            refine AG.takeW 8 rfl (by kernel_rfl) (by kernel_rfl) rfl rfl rfl (fun _ => Ev.build1 rfl rfl rfl inf_24 rfl rfl (by kernel_rfl) rfl) ?_
            refine AG.only 10 rfl (by kernel_rfl) ?_
            refine RG.stAll (g := g137) rfl rfl rfl rfl rfl sz_24 rfl rfl rfl hb152 (fun ws155 hwws155 hbws155 => ?_)
            replace hown150 := Own.far hown150 hwws155 hsb138
            replace hown147 := Own.far hown147 hwws155 hsb153
            replace hE13 := Wr.below hE13 hwws155 hle140
            refine RG.done ?_
            refine QW.an (fun _ => Rr.low_wr hwws155 hle140) ?_
            refine AG.done (by kernel_rfl) ?_
            refine QW.sub (S' := [(3, _), (8, _), (9, _), (10, _), (11, _), (12, _)]) ⟨rfl, rfl, rfl, rfl, rfl, rfl, trivial⟩ ?_
            refine QW.meet2 (g137) ((Value.slice Av145 _ Cv145)) ⟨rfl, trivial⟩ ⟨rfl, rfl, rfl, rfl, rfl, trivial⟩ ⟨⟨hbws155, Own.rdl hown147 encI_len⟩, hE13⟩
        · refine RG.alloc_ rfl rfl rfl rfl inf_24 (fun g157 w157 eg157 hx157 hb157 => ?_)
          have hsb158 := fun e => sep_new (g := g157) (Own.ext hown17 hE109) eg157 e
          have hsb159 := fun e => sep_new (g := g157) hown105 eg157 e
          have hle160 : w7.heap.size ≤ g157 := by have := hE13.size; omega
          have hle161 : wd12.heap.size ≤ g157 := by have := hE20.size; omega
          have hle162 : wk16.heap.size ≤ g157 := by have := hE109.size; omega
          have hle163 : wk104.heap.size ≤ g157 := by have := (Ex.rfl_ wk104).size; omega
          have hlt164 : g3 < g157 := by have := Blk.lt (hb3.ext hE13); omega
          replace hE13 := Ex.tr hE13 hx157
          replace hE20 := Ex.tr hE20 hx157
          replace hE109 := Ex.tr hE109 hx157
          have hE165 := hx157
          refine RG.done ?_
          refine QW.an (fun _ => Rr.of_ex hE165) ?_
          refine AG.only 5 rfl (by kernel_rfl) ?_
          refine RG.appO rfl rfl rfl rfl rfl rfl rfl Tryd.underlying22 inf_3 rfl rfl encI_len (fun _ => rfl) (Own.ext hown17 hE109) ((hws.ext hE13)) (by simp only [maxLen]; omega) (by omega) (hE13.size) (fun v167 wa168 hown169 hgr170 hat171 => ?_)
          have hsep173 := Sep.app (Sep.symm hsep107) (Own.ext hown105 hE165) hat171
          have hown172 := Own.grown (Own.ext hown105 hE165) hgr170 (fun k a b => (Sep.symm hsep107) k b a)
          have hb174 := Blk.grown hb157 hgr170 (fun e => hsb158 e.symm)
          have hsb175 := sepb_app hsb158 hb157 hat171
          replace hE13 := own_block (Own.ext hown17 hE109) hE13 hgr170 (Nat.le_refl _) hE13.size
          refine RG.done ?_
          refine QW.an (fun _ => Rr.low_own (Own.ext hown17 hE109) hgr170 (Nat.le_refl _)) ?_
          refine AG.only 7 rfl (by kernel_rfl) ?_
          refine RG.appO rfl rfl rfl rfl rfl rfl rfl Tryd.underlying22 inf_3 rfl rfl encI_len (fun _ => rfl) hown169 ((hown172.rdl encI_len)) (by show _ + 1 ≤ maxLen; simp only [maxLen]; omega) (by show (_ + 1) * _ ≤ _; omega) (hE13.size) (fun v177 wa178 hown179 hgr180 hat181 => ?_)
          have hsep183 := Sep.app hsep173 hown172 hat181
          have hown182 := Own.grown hown172 hgr180 (fun k a b => hsep173 k b a)
          have hb184 := Blk.grown hb174 hgr180 (fun e => hsb175 e.symm)
          have hsb185 := sepb_app hsb175 hb174 hat181
          replace hE13 := own_block hown169 hE13 hgr180 (Nat.le_refl _) hE13.size
          obtain ⟨Av177, Cv177, rfl⟩ := hown179.shape
          refine RG.done ?_
          refine QW.an (fun _ => Rr.low_own hown169 hgr180 (Nat.le_refl _)) ?_
          refine AG.takeW 8 rfl (by kernel_rfl) (by kernel_rfl) rfl rfl rfl (fun _ => Ev.build1 rfl rfl rfl inf_24 rfl rfl (by kernel_rfl) rfl) ?_
          refine AG.only 10 rfl (by kernel_rfl) ?_
          refine RG.stAll (g := g157) rfl rfl rfl rfl rfl sz_24 rfl rfl rfl hb184 (fun ws187 hwws187 hbws187 => ?_)
          replace hown182 := Own.far hown182 hwws187 hsb159
          replace hown179 := Own.far hown179 hwws187 hsb185
          replace hE13 := Wr.below hE13 hwws187 hle160
          refine RG.done ?_
          refine QW.an (fun _ => Rr.low_wr hwws187 hle160) ?_
          refine AG.done (by kernel_rfl) ?_
          refine QW.sub (S' := [(3, _), (8, _), (9, _), (10, _), (11, _), (12, _)]) ⟨rfl, rfl, rfl, rfl, rfl, rfl, trivial⟩ ?_
          refine QW.meet2 (g157) ((Value.slice Av177 _ Cv177)) ⟨rfl, trivial⟩ ⟨rfl, rfl, rfl, rfl, rfl, trivial⟩ ⟨⟨hbws187, Own.rdl hown179 encI_len⟩, hE13⟩
      · refine RG.alloc_ rfl rfl rfl rfl inf_24 (fun g189 w189 eg189 hx189 hb189 => ?_)
        have hsb190 := fun e => sep_new (g := g189) hown17 eg189 e
        have hle191 : w7.heap.size ≤ g189 := by have := hE13.size; omega
        have hle192 : wd12.heap.size ≤ g189 := by have := hE20.size; omega
        have hle193 : wk16.heap.size ≤ g189 := by have := (Ex.rfl_ wk16).size; omega
        have hlt194 : g3 < g189 := by have := Blk.lt (hb3.ext hE13); omega
        replace hE13 := Ex.tr hE13 hx189
        replace hE20 := Ex.tr hE20 hx189
        have hE195 := hx189
        refine RG.done ?_
        refine QW.an (fun _ => Rr.of_ex hE195) ?_
        refine AG.two 5 6 rfl rfl (by kernel_rfl) ?_ ?_
        · refine RG.appO rfl rfl rfl rfl rfl rfl rfl Tryd.underlying22 inf_3 rfl rfl encI_len (fun _ => rfl) (Own.ext hown17 hE195) ((hws.ext hE13)) (by simp only [maxLen]; omega) (by omega) (hE13.size) (fun v197 wa198 hown199 hgr200 hat201 => ?_)
          have hb202 := Blk.grown hb189 hgr200 (fun e => hsb190 e.symm)
          have hsb203 := sepb_app hsb190 hb189 hat201
          replace hE13 := own_block (Own.ext hown17 hE195) hE13 hgr200 (Nat.le_refl _) hE13.size
          refine RG.done ?_
          refine QW.an (fun _ => Rr.low_own (Own.ext hown17 hE195) hgr200 (Nat.le_refl _)) ?_
          refine AG.only 6 rfl (by kernel_rfl) ?_
          refine RG.litO (os := [_]) (enc := encI) ([11]) rfl rfl rfl rfl rfl rfl rfl Tryd.underlying22 inf_3 rfl rfl rfl rfl rfl encI_len rfl rfl (fun v205 wk206 hxwk206 hown207 hnew208 => ?_)
          have hsep209 : Sep v205 _ := Sep.of_new hown199 hnew208
          have hsb210 := fun e => sep_blk (hb3.ext hE13) (Nat.le_refl _) hown207 e
          have hsb211 := fun e => sep_blk hb202 (Nat.le_refl _) hown207 e
          replace hown207 := Own.low (B' := w7.heap.size) hown207 (by have := hE13.size; omega)
          replace hE13 := Ex.tr hE13 hxwk206
          have hE212 := hxwk206
          refine RG.done ?_
          refine QW.an (fun _ => Rr.of_ex hE212) ?_
          refine AG.only 7 rfl (by kernel_rfl) ?_
          refine RG.appO rfl rfl rfl rfl rfl rfl rfl Tryd.underlying22 inf_3 rfl rfl encI_len (fun _ => rfl) (Own.ext hown199 hE212) ((hown207.rdl encI_len)) (by show _ + 1 ≤ maxLen; simp only [maxLen]; omega) (by show (_ + 1) * _ ≤ _; omega) (hE13.size) (fun v214 wa215 hown216 hgr217 hat218 => ?_)
          have hb219 := Blk.grown (hb202.ext hE212) hgr217 (fun e => hsb203 e.symm)
          have hsb220 := sepb_app hsb203 (hb202.ext hE212) hat218
          have hsep222 := Sep.app (Sep.symm hsep209) hown207 hat218
          have hown221 := Own.grown hown207 hgr217 (fun k a b => (Sep.symm hsep209) k b a)
          replace hE13 := own_block (Own.ext hown199 hE212) hE13 hgr217 (Nat.le_refl _) hE13.size
          obtain ⟨Av214, Cv214, rfl⟩ := hown216.shape
          refine RG.done ?_
          refine QW.an (fun _ => Rr.low_own (Own.ext hown199 hE212) hgr217 (Nat.le_refl _)) ?_
          refine AG.takeW 8 rfl (by kernel_rfl) (by kernel_rfl) rfl rfl rfl (fun _ => Ev.build1 rfl rfl rfl inf_24 rfl rfl (by kernel_rfl) rfl) ?_
          refine AG.only 10 rfl (by kernel_rfl) ?_
          refine RG.stAll (g := g189) rfl rfl rfl rfl rfl sz_24 rfl rfl rfl hb219 (fun ws224 hwws224 hbws224 => ?_)
          replace hown221 := Own.far hown221 hwws224 hsb211
          replace hown216 := Own.far hown216 hwws224 hsb220
          replace hE13 := Wr.below hE13 hwws224 hle191
          refine RG.done ?_
          refine QW.an (fun _ => Rr.low_wr hwws224 hle191) ?_
          refine AG.done (by kernel_rfl) ?_
          refine QW.sub (S' := [(3, _), (8, _), (9, _), (10, _), (11, _), (12, _)]) ⟨rfl, rfl, rfl, rfl, rfl, rfl, trivial⟩ ?_
          refine QW.meet2 (g189) ((Value.slice Av214 _ Cv214)) ⟨rfl, trivial⟩ ⟨rfl, rfl, rfl, rfl, rfl, trivial⟩ ⟨⟨hbws224, Own.rdl hown216 encI_len⟩, hE13⟩
        · refine RG.litO (os := [_]) (enc := encI) ([11]) rfl rfl rfl rfl rfl rfl rfl Tryd.underlying22 inf_3 rfl rfl rfl rfl rfl encI_len rfl rfl (fun v226 wk227 hxwk227 hown228 hnew229 => ?_)
          have hsep230 : Sep v226 _ := Sep.of_new (Own.ext hown17 hE195) hnew229
          have hsb231 := fun e => sep_blk (hb3.ext hE13) (Nat.le_refl _) hown228 e
          have hsb232 := fun e => sep_blk hb189 (Nat.le_refl _) hown228 e
          replace hown228 := Own.low (B' := w7.heap.size) hown228 (by have := hE13.size; omega)
          replace hE13 := Ex.tr hE13 hxwk227
          replace hE20 := Ex.tr hE20 hxwk227
          replace hE195 := Ex.tr hE195 hxwk227
          have hE233 := hxwk227
          refine RG.done ?_
          refine QW.an (fun _ => Rr.of_ex hE233) ?_
          refine AG.only 5 rfl (by kernel_rfl) ?_
          refine RG.appO rfl rfl rfl rfl rfl rfl rfl Tryd.underlying22 inf_3 rfl rfl encI_len (fun _ => rfl) (Own.ext hown17 hE195) ((hws.ext hE13)) (by simp only [maxLen]; omega) (by omega) (hE13.size) (fun v235 wa236 hown237 hgr238 hat239 => ?_)
          have hb240 := Blk.grown (hb189.ext hE233) hgr238 (fun e => hsb190 e.symm)
          have hsb241 := sepb_app hsb190 (hb189.ext hE233) hat239
          have hsep243 := Sep.app (Sep.symm hsep230) hown228 hat239
          have hown242 := Own.grown hown228 hgr238 (fun k a b => (Sep.symm hsep230) k b a)
          replace hE13 := own_block (Own.ext hown17 hE195) hE13 hgr238 (Nat.le_refl _) hE13.size
          refine RG.done ?_
          refine QW.an (fun _ => Rr.low_own (Own.ext hown17 hE195) hgr238 (Nat.le_refl _)) ?_
          refine AG.only 7 rfl (by kernel_rfl) ?_
          refine RG.appO rfl rfl rfl rfl rfl rfl rfl Tryd.underlying22 inf_3 rfl rfl encI_len (fun _ => rfl) hown237 ((hown242.rdl encI_len)) (by show _ + 1 ≤ maxLen; simp only [maxLen]; omega) (by show (_ + 1) * _ ≤ _; omega) (hE13.size) (fun v245 wa246 hown247 hgr248 hat249 => ?_)
          have hb250 := Blk.grown hb240 hgr248 (fun e => hsb241 e.symm)
          have hsb251 := sepb_app hsb241 hb240 hat249
          have hsep253 := Sep.app hsep243 hown242 hat249
          have hown252 := Own.grown hown242 hgr248 (fun k a b => hsep243 k b a)
          replace hE13 := own_block hown237 hE13 hgr248 (Nat.le_refl _) hE13.size
          obtain ⟨Av245, Cv245, rfl⟩ := hown247.shape
          refine RG.done ?_
          refine QW.an (fun _ => Rr.low_own hown237 hgr248 (Nat.le_refl _)) ?_
          refine AG.takeW 8 rfl (by kernel_rfl) (by kernel_rfl) rfl rfl rfl (fun _ => Ev.build1 rfl rfl rfl inf_24 rfl rfl (by kernel_rfl) rfl) ?_
          refine AG.only 10 rfl (by kernel_rfl) ?_
          refine RG.stAll (g := g189) rfl rfl rfl rfl rfl sz_24 rfl rfl rfl hb250 (fun ws255 hwws255 hbws255 => ?_)
          replace hown252 := Own.far hown252 hwws255 hsb232
          replace hown247 := Own.far hown247 hwws255 hsb251
          replace hE13 := Wr.below hE13 hwws255 hle191
          refine RG.done ?_
          refine QW.an (fun _ => Rr.low_wr hwws255 hle191) ?_
          refine AG.done (by kernel_rfl) ?_
          refine QW.sub (S' := [(3, _), (8, _), (9, _), (10, _), (11, _), (12, _)]) ⟨rfl, rfl, rfl, rfl, rfl, rfl, trivial⟩ ?_
          refine QW.meet2 (g189) ((Value.slice Av245 _ Cv245)) ⟨rfl, trivial⟩ ⟨rfl, rfl, rfl, rfl, rfl, trivial⟩ ⟨⟨hbws255, Own.rdl hown247 encI_len⟩, hE13⟩
    · refine RG.litO (os := [_]) (enc := encI) ([11]) rfl rfl rfl rfl rfl rfl rfl Tryd.underlying22 inf_3 rfl rfl rfl rfl rfl encI_len rfl rfl (fun v257 wk258 hxwk258 hown259 hnew260 => ?_)
      have hsb261 := fun e => sep_blk (hb3.ext hE13) (Nat.le_refl _) hown259 e
      replace hown259 := Own.low (B' := w7.heap.size) hown259 (by have := hE13.size; omega)
      replace hE13 := Ex.tr hE13 hxwk258
      have hE262 := hxwk258
      refine RG.done ?_
      refine QW.an (fun _ => Rr.of_ex hE262) ?_
      refine AG.two 2 9 rfl rfl (by kernel_rfl) ?_ ?_
      · refine RG.build0O (enc := encI) rfl rfl rfl rfl rfl Tryd.underlying22 sz_3 (fun v264 wk265 hxwk265 hown266 hnew267 => ?_)
        have hsep268 : Sep v264 _ := Sep.of_new hown259 hnew267
        have hsb269 := fun e => sep_blk (hb3.ext hE13) (Nat.le_refl _) hown266 e
        replace hown266 := Own.low (B' := w7.heap.size) hown266 (by have := hE13.size; omega)
        replace hE13 := Ex.tr hE13 hxwk265
        replace hE262 := Ex.tr hE262 hxwk265
        have hE270 := hxwk265
        refine RG.done ?_
        refine QW.an (fun _ => Rr.of_ex hE270) ?_
        refine AG.two 5 9 rfl rfl (by kernel_rfl) ?_ ?_
        · refine RG.appO rfl rfl rfl rfl rfl rfl rfl Tryd.underlying22 inf_3 rfl rfl encI_len (fun _ => rfl) hown266 ((hws.ext hE13)) (by simp only [maxLen]; omega) (by omega) (hE13.size) (fun v272 wa273 hown274 hgr275 hat276 => ?_)
          have hsep278 := Sep.app hsep268 (Own.ext hown259 hE270) hat276
          have hown277 := Own.grown (Own.ext hown259 hE270) hgr275 (fun k a b => hsep268 k b a)
          replace hE13 := own_block hown266 hE13 hgr275 (Nat.le_refl _) hE13.size
          refine RG.done ?_
          refine QW.an (fun _ => Rr.low_own hown266 hgr275 (Nat.le_refl _)) ?_
          refine AG.two 7 9 rfl rfl (by kernel_rfl) ?_ ?_
          · refine RG.appO rfl rfl rfl rfl rfl rfl rfl Tryd.underlying22 inf_3 rfl rfl encI_len (fun _ => rfl) hown274 ((hown277.rdl encI_len)) (by show _ + 1 ≤ maxLen; simp only [maxLen]; omega) (by show (_ + 1) * _ ≤ _; omega) (hE13.size) (fun v280 wa281 hown282 hgr283 hat284 => ?_)
            have hsep286 := Sep.app hsep278 hown277 hat284
            have hown285 := Own.grown hown277 hgr283 (fun k a b => hsep278 k b a)
            replace hE13 := own_block hown274 hE13 hgr283 (Nat.le_refl _) hE13.size
            obtain ⟨Av280, Cv280, rfl⟩ := hown282.shape
            refine RG.done ?_
            refine QW.an (fun _ => Rr.low_own hown274 hgr283 (Nat.le_refl _)) ?_
            refine AG.takeW 8 rfl (by kernel_rfl) (by kernel_rfl) rfl rfl rfl (fun _ => Ev.build1 rfl rfl rfl inf_24 rfl rfl (by kernel_rfl) rfl) ?_
            refine AG.only 9 rfl (by kernel_rfl) ?_
            refine RG.alloc_ rfl rfl rfl rfl inf_24 (fun g288 w288 eg288 hx288 hb288 => ?_)
            have hsb289 := fun e => sep_new (g := g288) hown285 eg288 e
            have hsb290 := fun e => sep_new (g := g288) hown282 eg288 e
            have hle291 : w7.heap.size ≤ g288 := by have := hE13.size; omega
            have hle292 : wa281.heap.size ≤ g288 := by have := (Ex.rfl_ wa281).size; omega
            have hlt293 : g3 < g288 := by have := Blk.lt (hb3.ext hE13); omega
            replace hE13 := Ex.tr hE13 hx288
            have hE294 := hx288
            refine RG.done ?_
            refine QW.an (fun _ => Rr.of_ex hE294) ?_
            refine AG.only 10 rfl (by kernel_rfl) ?_
            refine RG.stAll (g := g288) rfl rfl rfl rfl rfl sz_24 rfl rfl rfl hb288 (fun ws296 hwws296 hbws296 => ?_)
            replace hE13 := Wr.below hE13 hwws296 hle291
            replace hE294 := Wr.below hE294 hwws296 hle292
            refine RG.done ?_
            refine QW.an (fun _ => Rr.low_wr hwws296 hle291) ?_
            refine AG.done (by kernel_rfl) ?_
            refine QW.sub (S' := [(3, _), (8, _), (9, _), (10, _), (11, _), (12, _)]) ⟨rfl, rfl, rfl, rfl, rfl, rfl, trivial⟩ ?_
            refine QW.meet2 (g288) ((Value.slice Av280 _ Cv280)) ⟨rfl, trivial⟩ ⟨rfl, rfl, rfl, rfl, rfl, trivial⟩ ⟨⟨hbws296, Own.rdl (Own.ext hown282 hE294) encI_len⟩, hE13⟩
          · refine RG.alloc_ rfl rfl rfl rfl inf_24 (fun g298 w298 eg298 hx298 hb298 => ?_)
            have hsb299 := fun e => sep_new (g := g298) hown277 eg298 e
            have hsb300 := fun e => sep_new (g := g298) hown274 eg298 e
            have hle301 : w7.heap.size ≤ g298 := by have := hE13.size; omega
            have hle302 : wa273.heap.size ≤ g298 := by have := (Ex.rfl_ wa273).size; omega
            have hlt303 : g3 < g298 := by have := Blk.lt (hb3.ext hE13); omega
            replace hE13 := Ex.tr hE13 hx298
            have hE304 := hx298
            refine RG.done ?_
            refine QW.an (fun _ => Rr.of_ex hE304) ?_
            refine AG.only 7 rfl (by kernel_rfl) ?_
            refine RG.appO rfl rfl rfl rfl rfl rfl rfl Tryd.underlying22 inf_3 rfl rfl encI_len (fun _ => rfl) (Own.ext hown274 hE304) (((Own.ext hown277 hE304).rdl encI_len)) (by show _ + 1 ≤ maxLen; simp only [maxLen]; omega) (by show (_ + 1) * _ ≤ _; omega) (hE13.size) (fun v306 wa307 hown308 hgr309 hat310 => ?_)
            have hsep312 := Sep.app hsep278 (Own.ext hown277 hE304) hat310
            have hown311 := Own.grown (Own.ext hown277 hE304) hgr309 (fun k a b => hsep278 k b a)
            have hb313 := Blk.grown hb298 hgr309 (fun e => hsb300 e.symm)
            have hsb314 := sepb_app hsb300 hb298 hat310
            replace hE13 := own_block (Own.ext hown274 hE304) hE13 hgr309 (Nat.le_refl _) hE13.size
            obtain ⟨Av306, Cv306, rfl⟩ := hown308.shape
            refine RG.done ?_
            refine QW.an (fun _ => Rr.low_own (Own.ext hown274 hE304) hgr309 (Nat.le_refl _)) ?_
            refine AG.takeW 8 rfl (by kernel_rfl) (by kernel_rfl) rfl rfl rfl (fun _ => Ev.build1 rfl rfl rfl inf_24 rfl rfl (by kernel_rfl) rfl) ?_
            refine AG.only 10 rfl (by kernel_rfl) ?_
            refine RG.stAll (g := g298) rfl rfl rfl rfl rfl sz_24 rfl rfl rfl hb313 (fun ws316 hwws316 hbws316 => ?_)
            replace hown311 := Own.far hown311 hwws316 hsb299
            replace hown308 := Own.far hown308 hwws316 hsb314
            replace hE13 := Wr.below hE13 hwws316 hle301
            refine RG.done ?_
            refine QW.an (fun _ => Rr.low_wr hwws316 hle301) ?_
            refine AG.done (by kernel_rfl) ?_
            refine QW.sub (S' := [(3, _), (8, _), (9, _), (10, _), (11, _), (12, _)]) ⟨rfl, rfl, rfl, rfl, rfl, rfl, trivial⟩ ?_
            refine QW.meet2 (g298) ((Value.slice Av306 _ Cv306)) ⟨rfl, trivial⟩ ⟨rfl, rfl, rfl, rfl, rfl, trivial⟩ ⟨⟨hbws316, Own.rdl hown308 encI_len⟩, hE13⟩
        · refine RG.alloc_ rfl rfl rfl rfl inf_24 (fun g318 w318 eg318 hx318 hb318 => ?_)
          have hsb319 := fun e => sep_new (g := g318) (Own.ext hown259 hE270) eg318 e
          have hsb320 := fun e => sep_new (g := g318) hown266 eg318 e
          have hle321 : w7.heap.size ≤ g318 := by have := hE13.size; omega
          have hle322 : wd12.heap.size ≤ g318 := by have := hE262.size; omega
          have hle323 : wk258.heap.size ≤ g318 := by have := hE270.size; omega
          have hle324 : wk265.heap.size ≤ g318 := by have := (Ex.rfl_ wk265).size; omega
          have hlt325 : g3 < g318 := by have := Blk.lt (hb3.ext hE13); omega
          replace hE13 := Ex.tr hE13 hx318
          replace hE262 := Ex.tr hE262 hx318
          replace hE270 := Ex.tr hE270 hx318
          have hE326 := hx318
          refine RG.done ?_
          refine QW.an (fun _ => Rr.of_ex hE326) ?_
          refine AG.only 5 rfl (by kernel_rfl) ?_
          refine RG.appO rfl rfl rfl rfl rfl rfl rfl Tryd.underlying22 inf_3 rfl rfl encI_len (fun _ => rfl) (Own.ext hown266 hE326) ((hws.ext hE13)) (by simp only [maxLen]; omega) (by omega) (hE13.size) (fun v328 wa329 hown330 hgr331 hat332 => ?_)
          have hsep334 := Sep.app hsep268 (Own.ext hown259 hE270) hat332
          have hown333 := Own.grown (Own.ext hown259 hE270) hgr331 (fun k a b => hsep268 k b a)
          have hb335 := Blk.grown hb318 hgr331 (fun e => hsb320 e.symm)
          have hsb336 := sepb_app hsb320 hb318 hat332
          replace hE13 := own_block (Own.ext hown266 hE326) hE13 hgr331 (Nat.le_refl _) hE13.size
          refine RG.done ?_
          refine QW.an (fun _ => Rr.low_own (Own.ext hown266 hE326) hgr331 (Nat.le_refl _)) ?_
          refine AG.only 7 rfl (by kernel_rfl) ?_
          refine RG.appO rfl rfl rfl rfl rfl rfl rfl Tryd.underlying22 inf_3 rfl rfl encI_len (fun _ => rfl) hown330 ((hown333.rdl encI_len)) (by show _ + 1 ≤ maxLen; simp only [maxLen]; omega) (by show (_ + 1) * _ ≤ _; omega) (hE13.size) (fun v338 wa339 hown340 hgr341 hat342 => ?_)
          have hsep344 := Sep.app hsep334 hown333 hat342
          have hown343 := Own.grown hown333 hgr341 (fun k a b => hsep334 k b a)
          have hb345 := Blk.grown hb335 hgr341 (fun e => hsb336 e.symm)
          have hsb346 := sepb_app hsb336 hb335 hat342
          replace hE13 := own_block hown330 hE13 hgr341 (Nat.le_refl _) hE13.size
          obtain ⟨Av338, Cv338, rfl⟩ := hown340.shape
          refine RG.done ?_
          refine QW.an (fun _ => Rr.low_own hown330 hgr341 (Nat.le_refl _)) ?_
          refine AG.takeW 8 rfl (by kernel_rfl) (by kernel_rfl) rfl rfl rfl (fun _ => Ev.build1 rfl rfl rfl inf_24 rfl rfl (by kernel_rfl) rfl) ?_
          refine AG.only 10 rfl (by kernel_rfl) ?_
          refine RG.stAll (g := g318) rfl rfl rfl rfl rfl sz_24 rfl rfl rfl hb345 (fun ws348 hwws348 hbws348 => ?_)
          replace hown343 := Own.far hown343 hwws348 hsb319
          replace hown340 := Own.far hown340 hwws348 hsb346
          replace hE13 := Wr.below hE13 hwws348 hle321
          refine RG.done ?_
          refine QW.an (fun _ => Rr.low_wr hwws348 hle321) ?_
          refine AG.done (by kernel_rfl) ?_
          refine QW.sub (S' := [(3, _), (8, _), (9, _), (10, _), (11, _), (12, _)]) ⟨rfl, rfl, rfl, rfl, rfl, rfl, trivial⟩ ?_
          refine QW.meet2 (g318) ((Value.slice Av338 _ Cv338)) ⟨rfl, trivial⟩ ⟨rfl, rfl, rfl, rfl, rfl, trivial⟩ ⟨⟨hbws348, Own.rdl hown340 encI_len⟩, hE13⟩
      · refine RG.alloc_ rfl rfl rfl rfl inf_24 (fun g350 w350 eg350 hx350 hb350 => ?_)
        have hsb351 := fun e => sep_new (g := g350) hown259 eg350 e
        have hle352 : w7.heap.size ≤ g350 := by have := hE13.size; omega
        have hle353 : wd12.heap.size ≤ g350 := by have := hE262.size; omega
        have hle354 : wk258.heap.size ≤ g350 := by have := (Ex.rfl_ wk258).size; omega
        have hlt355 : g3 < g350 := by have := Blk.lt (hb3.ext hE13); omega
        replace hE13 := Ex.tr hE13 hx350
        replace hE262 := Ex.tr hE262 hx350
        have hE356 := hx350
        refine RG.done ?_
        refine QW.an (fun _ => Rr.of_ex hE356) ?_
        refine AG.only 2 rfl (by kernel_rfl) ?_
        refine RG.build0O (enc := encI) rfl rfl rfl rfl rfl Tryd.underlying22 sz_3 (fun v358 wk359 hxwk359 hown360 hnew361 => ?_)
        have hsep362 : Sep v358 _ := Sep.of_new (Own.ext hown259 hE356) hnew361
        have hsb363 := fun e => sep_blk (hb3.ext hE13) (Nat.le_refl _) hown360 e
        have hsb364 := fun e => sep_blk hb350 (Nat.le_refl _) hown360 e
        replace hown360 := Own.low (B' := w7.heap.size) hown360 (by have := hE13.size; omega)
        replace hE13 := Ex.tr hE13 hxwk359
        replace hE262 := Ex.tr hE262 hxwk359
        replace hE356 := Ex.tr hE356 hxwk359
        have hE365 := hxwk359
        refine RG.done ?_
        refine QW.an (fun _ => Rr.of_ex hE365) ?_
        refine AG.only 5 rfl (by kernel_rfl) ?_
        refine RG.appO rfl rfl rfl rfl rfl rfl rfl Tryd.underlying22 inf_3 rfl rfl encI_len (fun _ => rfl) hown360 ((hws.ext hE13)) (by simp only [maxLen]; omega) (by omega) (hE13.size) (fun v367 wa368 hown369 hgr370 hat371 => ?_)
        have hsep373 := Sep.app hsep362 (Own.ext hown259 hE356) hat371
        have hown372 := Own.grown (Own.ext hown259 hE356) hgr370 (fun k a b => hsep362 k b a)
        have hb374 := Blk.grown (hb350.ext hE365) hgr370 (fun e => hsb364 e.symm)
        have hsb375 := sepb_app hsb364 (hb350.ext hE365) hat371
        replace hE13 := own_block hown360 hE13 hgr370 (Nat.le_refl _) hE13.size
        refine RG.done ?_
        refine QW.an (fun _ => Rr.low_own hown360 hgr370 (Nat.le_refl _)) ?_
        refine AG.only 7 rfl (by kernel_rfl) ?_
        refine RG.appO rfl rfl rfl rfl rfl rfl rfl Tryd.underlying22 inf_3 rfl rfl encI_len (fun _ => rfl) hown369 ((hown372.rdl encI_len)) (by show _ + 1 ≤ maxLen; simp only [maxLen]; omega) (by show (_ + 1) * _ ≤ _; omega) (hE13.size) (fun v377 wa378 hown379 hgr380 hat381 => ?_)
        have hsep383 := Sep.app hsep373 hown372 hat381
        have hown382 := Own.grown hown372 hgr380 (fun k a b => hsep373 k b a)
        have hb384 := Blk.grown hb374 hgr380 (fun e => hsb375 e.symm)
        have hsb385 := sepb_app hsb375 hb374 hat381
        replace hE13 := own_block hown369 hE13 hgr380 (Nat.le_refl _) hE13.size
        obtain ⟨Av377, Cv377, rfl⟩ := hown379.shape
        refine RG.done ?_
        refine QW.an (fun _ => Rr.low_own hown369 hgr380 (Nat.le_refl _)) ?_
        refine AG.takeW 8 rfl (by kernel_rfl) (by kernel_rfl) rfl rfl rfl (fun _ => Ev.build1 rfl rfl rfl inf_24 rfl rfl (by kernel_rfl) rfl) ?_
        refine AG.only 10 rfl (by kernel_rfl) ?_
        refine RG.stAll (g := g350) rfl rfl rfl rfl rfl sz_24 rfl rfl rfl hb384 (fun ws387 hwws387 hbws387 => ?_)
        replace hown382 := Own.far hown382 hwws387 hsb351
        replace hown379 := Own.far hown379 hwws387 hsb385
        replace hE13 := Wr.below hE13 hwws387 hle352
        refine RG.done ?_
        refine QW.an (fun _ => Rr.low_wr hwws387 hle352) ?_
        refine AG.done (by kernel_rfl) ?_
        refine QW.sub (S' := [(3, _), (8, _), (9, _), (10, _), (11, _), (12, _)]) ⟨rfl, rfl, rfl, rfl, rfl, rfl, trivial⟩ ?_
        refine QW.meet2 (g350) ((Value.slice Av377 _ Cv377)) ⟨rfl, trivial⟩ ⟨rfl, rfl, rfl, rfl, rfl, trivial⟩ ⟨⟨hbws387, Own.rdl hown379 encI_len⟩, hE13⟩
    · refine RG.alloc_ rfl rfl rfl rfl inf_24 (fun g389 w389 eg389 hx389 hb389 => ?_)
      have hle390 : w7.heap.size ≤ g389 := by have := hE13.size; omega
      have hle391 : wd12.heap.size ≤ g389 := by have := (Ex.rfl_ wd12).size; omega
      have hlt392 : g3 < g389 := by have := Blk.lt (hb3.ext hE13); omega
      replace hE13 := Ex.tr hE13 hx389
      have hE393 := hx389
      refine RG.done ?_
      refine QW.an (fun _ => Rr.of_ex hE393) ?_
      refine AG.two 2 6 rfl rfl (by kernel_rfl) ?_ ?_
      · refine RG.build0O (enc := encI) rfl rfl rfl rfl rfl Tryd.underlying22 sz_3 (fun v395 wk396 hxwk396 hown397 hnew398 => ?_)
        have hsb399 := fun e => sep_blk (hb3.ext hE13) (Nat.le_refl _) hown397 e
        have hsb400 := fun e => sep_blk hb389 (Nat.le_refl _) hown397 e
        replace hown397 := Own.low (B' := w7.heap.size) hown397 (by have := hE13.size; omega)
        replace hE13 := Ex.tr hE13 hxwk396
        have hE401 := hxwk396
        refine RG.done ?_
        refine QW.an (fun _ => Rr.of_ex hE401) ?_
        refine AG.two 5 6 rfl rfl (by kernel_rfl) ?_ ?_
        · refine RG.appO rfl rfl rfl rfl rfl rfl rfl Tryd.underlying22 inf_3 rfl rfl encI_len (fun _ => rfl) hown397 ((hws.ext hE13)) (by simp only [maxLen]; omega) (by omega) (hE13.size) (fun v403 wa404 hown405 hgr406 hat407 => ?_)
          have hb408 := Blk.grown (hb389.ext hE401) hgr406 (fun e => hsb400 e.symm)
          have hsb409 := sepb_app hsb400 (hb389.ext hE401) hat407
          replace hE13 := own_block hown397 hE13 hgr406 (Nat.le_refl _) hE13.size
          refine RG.done ?_
          refine QW.an (fun _ => Rr.low_own hown397 hgr406 (Nat.le_refl _)) ?_
          refine AG.only 6 rfl (by kernel_rfl) ?_
          refine RG.litO (os := [_]) (enc := encI) ([11]) rfl rfl rfl rfl rfl rfl rfl Tryd.underlying22 inf_3 rfl rfl rfl rfl rfl encI_len rfl rfl (fun v411 wk412 hxwk412 hown413 hnew414 => ?_)
          have hsep415 : Sep v411 _ := Sep.of_new hown405 hnew414
          have hsb416 := fun e => sep_blk (hb3.ext hE13) (Nat.le_refl _) hown413 e
          have hsb417 := fun e => sep_blk hb408 (Nat.le_refl _) hown413 e
          replace hown413 := Own.low (B' := w7.heap.size) hown413 (by have := hE13.size; omega)
          replace hE13 := Ex.tr hE13 hxwk412
          have hE418 := hxwk412
          refine RG.done ?_
          refine QW.an (fun _ => Rr.of_ex hE418) ?_
          refine AG.only 7 rfl (by kernel_rfl) ?_
          refine RG.appO rfl rfl rfl rfl rfl rfl rfl Tryd.underlying22 inf_3 rfl rfl encI_len (fun _ => rfl) (Own.ext hown405 hE418) ((hown413.rdl encI_len)) (by show _ + 1 ≤ maxLen; simp only [maxLen]; omega) (by show (_ + 1) * _ ≤ _; omega) (hE13.size) (fun v420 wa421 hown422 hgr423 hat424 => ?_)
          have hb425 := Blk.grown (hb408.ext hE418) hgr423 (fun e => hsb409 e.symm)
          have hsb426 := sepb_app hsb409 (hb408.ext hE418) hat424
          have hsep428 := Sep.app (Sep.symm hsep415) hown413 hat424
          have hown427 := Own.grown hown413 hgr423 (fun k a b => (Sep.symm hsep415) k b a)
          replace hE13 := own_block (Own.ext hown405 hE418) hE13 hgr423 (Nat.le_refl _) hE13.size
          obtain ⟨Av420, Cv420, rfl⟩ := hown422.shape
          refine RG.done ?_
          refine QW.an (fun _ => Rr.low_own (Own.ext hown405 hE418) hgr423 (Nat.le_refl _)) ?_
          refine AG.takeW 8 rfl (by kernel_rfl) (by kernel_rfl) rfl rfl rfl (fun _ => Ev.build1 rfl rfl rfl inf_24 rfl rfl (by kernel_rfl) rfl) ?_
          refine AG.only 10 rfl (by kernel_rfl) ?_
          refine RG.stAll (g := g389) rfl rfl rfl rfl rfl sz_24 rfl rfl rfl hb425 (fun ws430 hwws430 hbws430 => ?_)
          replace hown427 := Own.far hown427 hwws430 hsb417
          replace hown422 := Own.far hown422 hwws430 hsb426
          replace hE13 := Wr.below hE13 hwws430 hle390
          refine RG.done ?_
          refine QW.an (fun _ => Rr.low_wr hwws430 hle390) ?_
          refine AG.done (by kernel_rfl) ?_
          refine QW.sub (S' := [(3, _), (8, _), (9, _), (10, _), (11, _), (12, _)]) ⟨rfl, rfl, rfl, rfl, rfl, rfl, trivial⟩ ?_
          refine QW.meet2 (g389) ((Value.slice Av420 _ Cv420)) ⟨rfl, trivial⟩ ⟨rfl, rfl, rfl, rfl, rfl, trivial⟩ ⟨⟨hbws430, Own.rdl hown422 encI_len⟩, hE13⟩
        · refine RG.litO (os := [_]) (enc := encI) ([11]) rfl rfl rfl rfl rfl rfl rfl Tryd.underlying22 inf_3 rfl rfl rfl rfl rfl encI_len rfl rfl (fun v432 wk433 hxwk433 hown434 hnew435 => ?_)
          have hsep436 : Sep v432 _ := Sep.of_new hown397 hnew435
          have hsb437 := fun e => sep_blk (hb3.ext hE13) (Nat.le_refl _) hown434 e
          have hsb438 := fun e => sep_blk (hb389.ext hE401) (Nat.le_refl _) hown434 e
          replace hown434 := Own.low (B' := w7.heap.size) hown434 (by have := hE13.size; omega)
          replace hE13 := Ex.tr hE13 hxwk433
          replace hE401 := Ex.tr hE401 hxwk433
          have hE439 := hxwk433
          refine RG.done ?_
          refine QW.an (fun _ => Rr.of_ex hE439) ?_
          refine AG.only 5 rfl (by kernel_rfl) ?_
          refine RG.appO rfl rfl rfl rfl rfl rfl rfl Tryd.underlying22 inf_3 rfl rfl encI_len (fun _ => rfl) (Own.ext hown397 hE439) ((hws.ext hE13)) (by simp only [maxLen]; omega) (by omega) (hE13.size) (fun v441 wa442 hown443 hgr444 hat445 => ?_)
          have hb446 := Blk.grown (hb389.ext hE401) hgr444 (fun e => hsb400 e.symm)
          have hsb447 := sepb_app hsb400 (hb389.ext hE401) hat445
          have hsep449 := Sep.app (Sep.symm hsep436) hown434 hat445
          have hown448 := Own.grown hown434 hgr444 (fun k a b => (Sep.symm hsep436) k b a)
          replace hE13 := own_block (Own.ext hown397 hE439) hE13 hgr444 (Nat.le_refl _) hE13.size
          refine RG.done ?_
          refine QW.an (fun _ => Rr.low_own (Own.ext hown397 hE439) hgr444 (Nat.le_refl _)) ?_
          refine AG.only 7 rfl (by kernel_rfl) ?_
          refine RG.appO rfl rfl rfl rfl rfl rfl rfl Tryd.underlying22 inf_3 rfl rfl encI_len (fun _ => rfl) hown443 ((hown448.rdl encI_len)) (by show _ + 1 ≤ maxLen; simp only [maxLen]; omega) (by show (_ + 1) * _ ≤ _; omega) (hE13.size) (fun v451 wa452 hown453 hgr454 hat455 => ?_)
          have hb456 := Blk.grown hb446 hgr454 (fun e => hsb447 e.symm)
          have hsb457 := sepb_app hsb447 hb446 hat455
          have hsep459 := Sep.app hsep449 hown448 hat455
          have hown458 := Own.grown hown448 hgr454 (fun k a b => hsep449 k b a)
          replace hE13 := own_block hown443 hE13 hgr454 (Nat.le_refl _) hE13.size
          obtain ⟨Av451, Cv451, rfl⟩ := hown453.shape
          refine RG.done ?_
          refine QW.an (fun _ => Rr.low_own hown443 hgr454 (Nat.le_refl _)) ?_
          refine AG.takeW 8 rfl (by kernel_rfl) (by kernel_rfl) rfl rfl rfl (fun _ => Ev.build1 rfl rfl rfl inf_24 rfl rfl (by kernel_rfl) rfl) ?_
          refine AG.only 10 rfl (by kernel_rfl) ?_
          refine RG.stAll (g := g389) rfl rfl rfl rfl rfl sz_24 rfl rfl rfl hb456 (fun ws461 hwws461 hbws461 => ?_)
          replace hown458 := Own.far hown458 hwws461 hsb438
          replace hown453 := Own.far hown453 hwws461 hsb457
          replace hE13 := Wr.below hE13 hwws461 hle390
          refine RG.done ?_
          refine QW.an (fun _ => Rr.low_wr hwws461 hle390) ?_
          refine AG.done (by kernel_rfl) ?_
          refine QW.sub (S' := [(3, _), (8, _), (9, _), (10, _), (11, _), (12, _)]) ⟨rfl, rfl, rfl, rfl, rfl, rfl, trivial⟩ ?_
          refine QW.meet2 (g389) ((Value.slice Av451 _ Cv451)) ⟨rfl, trivial⟩ ⟨rfl, rfl, rfl, rfl, rfl, trivial⟩ ⟨⟨hbws461, Own.rdl hown453 encI_len⟩, hE13⟩
      · refine RG.litO (os := [_]) (enc := encI) ([11]) rfl rfl rfl rfl rfl rfl rfl Tryd.underlying22 inf_3 rfl rfl rfl rfl rfl encI_len rfl rfl (fun v463 wk464 hxwk464 hown465 hnew466 => ?_)
        have hsb467 := fun e => sep_blk (hb3.ext hE13) (Nat.le_refl _) hown465 e
        have hsb468 := fun e => sep_blk hb389 (Nat.le_refl _) hown465 e
        replace hown465 := Own.low (B' := w7.heap.size) hown465 (by have := hE13.size; omega)
        replace hE13 := Ex.tr hE13 hxwk464
        have hE469 := hxwk464
        refine RG.done ?_
        refine QW.an (fun _ => Rr.of_ex hE469) ?_
        refine AG.only 2 rfl (by kernel_rfl) ?_
        refine RG.build0O (enc := encI) rfl rfl rfl rfl rfl Tryd.underlying22 sz_3 (fun v471 wk472 hxwk472 hown473 hnew474 => ?_)
        have hsep475 : Sep v471 _ := Sep.of_new hown465 hnew474
        have hsb476 := fun e => sep_blk (hb3.ext hE13) (Nat.le_refl _) hown473 e
        have hsb477 := fun e => sep_blk (hb389.ext hE469) (Nat.le_refl _) hown473 e
        replace hown473 := Own.low (B' := w7.heap.size) hown473 (by have := hE13.size; omega)
        replace hE13 := Ex.tr hE13 hxwk472
        replace hE469 := Ex.tr hE469 hxwk472
        have hE478 := hxwk472
        refine RG.done ?_
        refine QW.an (fun _ => Rr.of_ex hE478) ?_
        refine AG.only 5 rfl (by kernel_rfl) ?_
        refine RG.appO rfl rfl rfl rfl rfl rfl rfl Tryd.underlying22 inf_3 rfl rfl encI_len (fun _ => rfl) hown473 ((hws.ext hE13)) (by simp only [maxLen]; omega) (by omega) (hE13.size) (fun v480 wa481 hown482 hgr483 hat484 => ?_)
        have hb485 := Blk.grown (hb389.ext hE469) hgr483 (fun e => hsb477 e.symm)
        have hsb486 := sepb_app hsb477 (hb389.ext hE469) hat484
        have hsep488 := Sep.app hsep475 (Own.ext hown465 hE478) hat484
        have hown487 := Own.grown (Own.ext hown465 hE478) hgr483 (fun k a b => hsep475 k b a)
        replace hE13 := own_block hown473 hE13 hgr483 (Nat.le_refl _) hE13.size
        refine RG.done ?_
        refine QW.an (fun _ => Rr.low_own hown473 hgr483 (Nat.le_refl _)) ?_
        refine AG.only 7 rfl (by kernel_rfl) ?_
        refine RG.appO rfl rfl rfl rfl rfl rfl rfl Tryd.underlying22 inf_3 rfl rfl encI_len (fun _ => rfl) hown482 ((hown487.rdl encI_len)) (by show _ + 1 ≤ maxLen; simp only [maxLen]; omega) (by show (_ + 1) * _ ≤ _; omega) (hE13.size) (fun v490 wa491 hown492 hgr493 hat494 => ?_)
        have hb495 := Blk.grown hb485 hgr493 (fun e => hsb486 e.symm)
        have hsb496 := sepb_app hsb486 hb485 hat494
        have hsep498 := Sep.app hsep488 hown487 hat494
        have hown497 := Own.grown hown487 hgr493 (fun k a b => hsep488 k b a)
        replace hE13 := own_block hown482 hE13 hgr493 (Nat.le_refl _) hE13.size
        obtain ⟨Av490, Cv490, rfl⟩ := hown492.shape
        refine RG.done ?_
        refine QW.an (fun _ => Rr.low_own hown482 hgr493 (Nat.le_refl _)) ?_
        refine AG.takeW 8 rfl (by kernel_rfl) (by kernel_rfl) rfl rfl rfl (fun _ => Ev.build1 rfl rfl rfl inf_24 rfl rfl (by kernel_rfl) rfl) ?_
        refine AG.only 10 rfl (by kernel_rfl) ?_
        refine RG.stAll (g := g389) rfl rfl rfl rfl rfl sz_24 rfl rfl rfl hb495 (fun ws500 hwws500 hbws500 => ?_)
        replace hown497 := Own.far hown497 hwws500 hsb468
        replace hown492 := Own.far hown492 hwws500 hsb496
        replace hE13 := Wr.below hE13 hwws500 hle390
        refine RG.done ?_
        refine QW.an (fun _ => Rr.low_wr hwws500 hle390) ?_
        refine AG.done (by kernel_rfl) ?_
        refine QW.sub (S' := [(3, _), (8, _), (9, _), (10, _), (11, _), (12, _)]) ⟨rfl, rfl, rfl, rfl, rfl, rfl, trivial⟩ ?_
        refine QW.meet2 (g389) ((Value.slice Av490 _ Cv490)) ⟨rfl, trivial⟩ ⟨rfl, rfl, rfl, rfl, rfl, trivial⟩ ⟨⟨hbws500, Own.rdl hown492 encI_len⟩, hE13⟩
  · rintro g b wm11 ⟨⟨hbg, hw2⟩, hxwm11⟩
    refine QW.then_ ?_
    refine CW.seq ?_
    have hwl2 : (ws ++ [11]).length ≤ 100000 := by simp; omega
    refine CW.region ?_
    refine RG.vl rfl rfl rfl (Ev.ldAgg rfl rfl Tryd.underlying24 rfl sz_24 rfl (hbg.cells)) ?_
    refine RG.call rfl rfl rfl rfl rfl rfl rfl en_20 (Check_is (k := k) (ws := (ws ++ [11])) hw2 hwl2 (by decide) (chk_bad hbd)) ?_
    rintro _ w501 ⟨rfl, hx501⟩
    replace hxwm11 := Ex.tr hxwm11 hx501
    have hE502 := hx501
    refine RG.vl rfl rfl rfl (Ev.move rfl rfl) ?_
    refine RG.vl rfl rfl rfl (Ev.extract rfl rfl rfl) ?_
    refine RG.vl rfl rfl rfl (Ev.extract rfl rfl rfl) ?_
    refine RG.vl rfl rfl rfl (Ev.assign rfl rfl) ?_
    refine RG.vl rfl rfl rfl (Ev.assign rfl rfl) ?_
    refine RG.done ?_
    refine QW.then_ ?_
    refine CW.seq ?_
    refine CW.region ?_
    refine RG.vl rfl rfl rfl (Ev.ldAgg rfl rfl Tryd.underlying24 rfl sz_24 rfl ((hbg.ext hE502).cells)) ?_
    refine RG.vl rfl rfl rfl (Ev.move rfl rfl) ?_
    refine RG.call rfl rfl rfl rfl rfl rfl rfl en_25 (Append_is (k := k) (ws := (ws ++ [11])) (hw2.ext hE502) hwl2 (by decide) (app_bad hbd)) ?_
    rintro _ w503 ⟨rfl, hx503⟩
    replace hxwm11 := Ex.tr hxwm11 hx503
    replace hE502 := Ex.tr hE502 hx503
    have hE504 := hx503
    refine RG.vl rfl rfl rfl (Ev.move rfl rfl) ?_
    refine RG.vl rfl rfl rfl (Ev.extract rfl rfl rfl) ?_
    refine RG.vl rfl rfl rfl (Ev.extract rfl rfl rfl) ?_
    refine RG.vl rfl rfl rfl (Ev.assign rfl rfl) ?_
    refine RG.vl rfl rfl rfl (Ev.assign rfl rfl) ?_
    refine RG.done ?_
    refine QW.sub (S' := [(3, _), (8, _), (9, _), (10, _), (11, _), (12, _), (14, _), (16, _)]) ⟨rfl, rfl, rfl, rfl, rfl, rfl, rfl, rfl, trivial⟩ ?_
    refine QW.then_ ?_
    refine CW.seq ?_
    refine CW.region ?_
    refine RG.vl rfl rfl rfl (Ev.ldAgg rfl rfl Tryd.underlying24 rfl sz_24 rfl ((hbg.ext hE502).cells)) ?_
    refine RG.vl rfl rfl rfl (Ev.move rfl rfl) ?_
    refine RG.vl rfl rfl rfl ((Ev.cat rfl rfl rfl (by decide)).conv (congrArg Value.string (bx_cat [48, 49, 50, 51, 52, 53, 54, 55, 56, 57, 48, 49, 50, 51, 52, 53, 54, 55, 56, 57, 48, 49, 50, 51, 52, 53, 54, 55, 56, 57, 48] [49]))) ?_
    refine RG.call rfl rfl rfl rfl rfl rfl rfl en_21 (Test_is (k := k) (ws := (ws ++ [11])) (hw2.ext hE502) hwl2 (by decide) (tst_bad hbd)) ?_
    rintro _ w505 ⟨rfl, hx505⟩
    replace hxwm11 := Ex.tr hxwm11 hx505
    replace hE502 := Ex.tr hE502 hx505
    replace hE504 := Ex.tr hE504 hx505
    have hE506 := hx505
    refine RG.vl rfl rfl rfl (Ev.move rfl rfl) ?_
    refine RG.vl rfl rfl rfl (Ev.extract rfl rfl rfl) ?_
    refine RG.vl rfl rfl rfl (Ev.extract rfl rfl rfl) ?_
    refine RG.vl rfl rfl rfl (Ev.assign rfl rfl) ?_
    refine RG.vl rfl rfl rfl (Ev.assign rfl rfl) ?_
    refine RG.done ?_
    refine QW.then_ ?_
    refine CW.seq ?_
    refine CW.region ?_
    refine RG.vl rfl rfl rfl (Ev.ldAgg rfl rfl Tryd.underlying24 rfl sz_24 rfl ((hbg.ext hE502).cells)) ?_
    refine RG.call rfl rfl rfl rfl rfl rfl rfl en_31 (Fill_is (k := k) (ws := (ws ++ [11])) (hw2.ext hE502) hwl2 (by decide) (fil_bad hbd)) ?_
    rintro _ w507 ⟨rfl, hx507⟩
    replace hxwm11 := Ex.tr hxwm11 hx507
    replace hE502 := Ex.tr hE502 hx507
    replace hE504 := Ex.tr hE504 hx507
    replace hE506 := Ex.tr hE506 hx507
    have hE508 := hx507
    refine RG.vl rfl rfl rfl (Ev.move rfl rfl) ?_
    refine RG.vl rfl rfl rfl (Ev.extract rfl rfl rfl) ?_
    refine RG.vl rfl rfl rfl (Ev.extract rfl rfl rfl) ?_
    refine RG.vl rfl rfl rfl (Ev.assign rfl rfl) ?_
    refine RG.vl rfl rfl rfl (Ev.assign rfl rfl) ?_
    refine RG.done ?_
    refine QW.sub (S' := [(3, _), (8, _), (9, _), (10, _), (11, _), (12, _), (14, _), (16, _), (18, _), (20, _)]) ⟨rfl, rfl, rfl, rfl, rfl, rfl, rfl, rfl, rfl, rfl, trivial⟩ ?_
    refine QW.then_ ?_
    refine CW.seq ?_
    refine CW.region ?_
    refine RG.vl rfl rfl rfl (Ev.ldAgg rfl rfl Tryd.underlying24 rfl sz_24 rfl ((hbg.ext hE502).cells)) ?_
    refine RG.call rfl rfl rfl rfl rfl rfl rfl en_15 (Misses_is (k := k) (ws := (ws ++ [11])) (hw2.ext hE502) hwl2 (mis_bad hbd)) ?_
    have hpre509 := (Ex.tr hR9 hxwm11)
    rintro _ w509 ⟨r509, rfl, hm509, hx509⟩
    have hsb510 := fun e => sep_blk (hb3.ext hxwm11) (Nat.le_refl _) hm509 e
    have hsb511 := fun e => sep_blk (hbg.ext hE502) (Nat.le_refl _) hm509 e
    replace hxwm11 := Ex.tr hxwm11 hx509
    replace hE502 := Ex.tr hE502 hx509
    replace hE504 := Ex.tr hE504 hx509
    replace hE506 := Ex.tr hE506 hx509
    replace hE508 := Ex.tr hE508 hx509
    have hE512 := hx509
    refine RG.vl rfl rfl rfl (Ev.move rfl rfl) ?_
    refine RG.vl rfl rfl rfl (Ev.extract rfl rfl rfl) ?_
    refine RG.vl rfl rfl rfl (Ev.extract rfl rfl rfl) ?_
    refine RG.vl rfl rfl rfl (Ev.assign rfl rfl) ?_
    refine RG.vl rfl rfl rfl (Ev.assign rfl rfl) ?_
    refine RG.done ?_
    refine QW.then_ ?_
    refine CW.seq ?_
    refine CW.seq ?_
    refine CW.region ?_
    refine RG.vl rfl rfl rfl (Ev.ldAgg rfl rfl Tryd.underlying24 rfl sz_24 rfl ((hbg.ext hE502).cells)) ?_
    refine RG.call rfl rfl rfl rfl rfl rfl rfl en_22 (Right_is (k := k) (ws := (ws ++ [11])) (hw2.ext hE502) hwl2 hbd) ?_
    rintro _ w513 ⟨rfl, hx513⟩
    replace hxwm11 := Ex.tr hxwm11 hx513
    replace hE502 := Ex.tr hE502 hx513
    replace hE504 := Ex.tr hE504 hx513
    replace hE506 := Ex.tr hE506 hx513
    replace hE508 := Ex.tr hE508 hx513
    replace hE512 := Ex.tr hE512 hx513
    have hE514 := hx513
    refine RG.vl rfl rfl rfl (Ev.move rfl rfl) ?_
    refine RG.vl rfl rfl rfl (Ev.ldAgg rfl rfl Tryd.underlying24 rfl sz_24 rfl ((hb3.ext hxwm11).cells)) ?_
    refine RG.call rfl rfl rfl rfl rfl rfl rfl en_22 (Right_is (k := k) (ws := ws) (hws.ext hxwm11) hwl hr) ?_
    rintro _ w515 ⟨rfl, hx515⟩
    replace hxwm11 := Ex.tr hxwm11 hx515
    replace hE502 := Ex.tr hE502 hx515
    replace hE504 := Ex.tr hE504 hx515
    replace hE506 := Ex.tr hE506 hx515
    replace hE508 := Ex.tr hE508 hx515
    replace hE512 := Ex.tr hE512 hx515
    replace hE514 := Ex.tr hE514 hx515
    have hE516 := hx515
    refine RG.vl rfl rfl rfl (Ev.notF rfl rfl) ?_
    refine RG.vl rfl rfl rfl (Ev.pickF rfl rfl rfl) ?_
    refine RG.vl rfl rfl rfl (Ev.move rfl rfl) ?_
    refine RG.vl rfl rfl rfl (Ev.move rfl rfl) ?_
    refine RG.vl rfl rfl rfl (Ev.isF (Ev.neI rfl rfl rfl) (fun h => h rfl)) ?_
    refine RG.vl rfl rfl rfl (Ev.pickF rfl rfl rfl) ?_
    refine RG.vl rfl rfl rfl (Ev.move rfl rfl) ?_
    refine RG.vl rfl rfl rfl (Ev.move rfl rfl) ?_
    refine RG.vl rfl rfl rfl (Ev.isF (Ev.neI rfl rfl rfl) (fun h => h rfl)) ?_
    refine RG.vl rfl rfl rfl (Ev.pickF rfl rfl rfl) ?_
    refine RG.vl rfl rfl rfl (Ev.move rfl rfl) ?_
    refine RG.vl rfl rfl rfl (Ev.move rfl rfl) ?_
    refine RG.vl rfl rfl rfl (Ev.isF (Ev.neI rfl rfl rfl) (fun h => h rfl)) ?_
    refine RG.vl rfl rfl rfl (Ev.pickF rfl rfl rfl) ?_
    refine RG.vl rfl rfl rfl (Ev.move rfl rfl) ?_
    refine RG.vl rfl rfl rfl (Ev.move rfl rfl) ?_
    refine RG.vl rfl rfl rfl (Ev.isF (Ev.neI rfl rfl rfl) (fun h => h rfl)) ?_
    refine RG.vl rfl rfl rfl (Ev.pickF rfl rfl rfl) ?_
    refine RG.vl rfl rfl rfl (Ev.move rfl rfl) ?_
    refine RG.vl rfl rfl rfl (Ev.move rfl rfl) ?_
    refine RG.vl rfl rfl rfl (Ev.isF (Ev.neI rfl rfl rfl) (fun h => h rfl)) ?_
    refine RG.vl rfl rfl rfl (Ev.pickF rfl rfl rfl) ?_
    refine RG.done ?_
    refine QW.sub (S' := [(3, _), (8, _), (9, _), (10, _), (11, _), (14, _), (16, _), (18, _), (20, _), (22, _), (94, _)]) ⟨rfl, rfl, rfl, rfl, rfl, rfl, rfl, rfl, rfl, rfl, rfl, trivial⟩ ?_
    refine QW.then_ ?_
    refine CW.condF rfl ?_
    refine CW.skip ?_
    refine QW.then_ ?_
    refine CW.seq ?_
    refine CW.region ?_
    refine RG.vl rfl rfl rfl (Ev.ldAgg rfl rfl Tryd.underlying24 rfl sz_24 rfl ((hb3.ext hxwm11).cells)) ?_
    refine RG.vl rfl rfl rfl (Ev.move rfl rfl) ?_
    refine RG.call rfl rfl rfl rfl rfl rfl rfl en_20 (Check_is (k := k) (ws := ws) (hws.ext hxwm11) hwl (by decide) (chk_long (t := [48, 49, 50, 51, 52, 53, 54, 55, 56, 57, 48, 49, 50, 51, 52, 53, 54, 55, 56, 57, 48, 49, 50, 51, 52, 53, 54, 55, 56, 57, 48]) hr (by decide))) ?_
    rintro _ w517 ⟨rfl, hx517⟩
    replace hxwm11 := Ex.tr hxwm11 hx517
    replace hE502 := Ex.tr hE502 hx517
    replace hE504 := Ex.tr hE504 hx517
    replace hE506 := Ex.tr hE506 hx517
    replace hE508 := Ex.tr hE508 hx517
    replace hE512 := Ex.tr hE512 hx517
    replace hE514 := Ex.tr hE514 hx517
    replace hE516 := Ex.tr hE516 hx517
    have hE518 := hx517
    refine RG.vl rfl rfl rfl (Ev.move rfl rfl) ?_
    refine RG.vl rfl rfl rfl (Ev.extract rfl rfl rfl) ?_
    refine RG.vl rfl rfl rfl (Ev.extract rfl rfl rfl) ?_
    refine RG.vl rfl rfl rfl (Ev.assign rfl rfl) ?_
    refine RG.done ?_
    refine QW.then_ ?_
    refine CW.seq ?_
    refine CW.draw [] (.ex) 8 rfl mixed (fun wd519 hxwd519 => ?_)
    replace hxwm11 := Ex.tr hxwm11 hxwd519
    replace hE502 := Ex.tr hE502 hxwd519
    replace hE504 := Ex.tr hE504 hxwd519
    replace hE506 := Ex.tr hE506 hxwd519
    replace hE508 := Ex.tr hE508 hxwd519
    replace hE512 := Ex.tr hE512 hxwd519
    replace hE514 := Ex.tr hE514 hxwd519
    replace hE516 := Ex.tr hE516 hxwd519
    replace hE518 := Ex.tr hE518 hxwd519
    refine AG.take 0 rfl (by kernel_rfl) (by kernel_rfl) rfl rfl rfl (fun wq hq => Ev.ldAgg rfl rfl Tryd.underlying24 rfl sz_24 rfl (((hb3.ext hxwm11).ext hq).cells)) ?_
    refine AG.takeW 1 rfl (by kernel_rfl) (by kernel_rfl) rfl rfl rfl (fun _ => Ev.move rfl rfl) ?_
    refine AG.only 2 rfl (by kernel_rfl) ?_
    refine RG.call rfl rfl rfl rfl rfl rfl rfl en_27 (put_ret [48, 49, 50, 51, 52, 53, 54, 55, 56, 57, 48, 49, 50, 51, 52, 53, 54, 55, 56, 57, 48, 49, 50, 51, 52, 53, 54, 55, 56, 57, 48] 3 97 _ (by decide) (by decide)) ?_
    rintro _ w521 ⟨rfl, hx521⟩
    replace hxwm11 := Ex.tr hxwm11 hx521
    replace hE502 := Ex.tr hE502 hx521
    replace hE504 := Ex.tr hE504 hx521
    replace hE506 := Ex.tr hE506 hx521
    replace hE508 := Ex.tr hE508 hx521
    replace hE512 := Ex.tr hE512 hx521
    replace hE514 := Ex.tr hE514 hx521
    replace hE516 := Ex.tr hE516 hx521
    replace hE518 := Ex.tr hE518 hx521
    have hE522 := hx521
    refine RG.done ?_
    refine QW.an (fun _ => hE522) ?_
    refine AG.only 3 rfl (by kernel_rfl) ?_
    refine RG.call rfl rfl rfl rfl rfl rfl rfl en_25 (Append_is (k := k) (ws := ws) (hws.ext hxwm11) hwl (by decide) (app_long hr (by decide))) ?_
    rintro _ w524 ⟨rfl, hx524⟩
    replace hxwm11 := Ex.tr hxwm11 hx524
    replace hE502 := Ex.tr hE502 hx524
    replace hE504 := Ex.tr hE504 hx524
    replace hE506 := Ex.tr hE506 hx524
    replace hE508 := Ex.tr hE508 hx524
    replace hE512 := Ex.tr hE512 hx524
    replace hE514 := Ex.tr hE514 hx524
    replace hE516 := Ex.tr hE516 hx524
    replace hE518 := Ex.tr hE518 hx524
    replace hE522 := Ex.tr hE522 hx524
    have hE525 := hx524
    refine RG.done ?_
    refine QW.an (fun _ => hE525) ?_
    refine AG.takeW 4 rfl (by kernel_rfl) (by kernel_rfl) rfl rfl rfl (fun _ => Ev.move rfl rfl) ?_
    refine AG.takeW 5 rfl (by kernel_rfl) (by kernel_rfl) rfl rfl rfl (fun _ => Ev.extract rfl rfl rfl) ?_
    refine AG.takeW 6 rfl (by kernel_rfl) (by kernel_rfl) rfl rfl rfl (fun _ => Ev.extract rfl rfl rfl) ?_
    refine AG.takeW 7 rfl (by kernel_rfl) (by kernel_rfl) rfl rfl rfl (fun _ => Ev.assign rfl rfl) ?_
    refine AG.done (by kernel_rfl) ?_
    refine QW.sub (S' := [(3, _), (8, _), (9, _), (10, _), (11, _), (14, _), (16, _), (18, _), (20, _), (22, _)]) ⟨rfl, rfl, rfl, rfl, rfl, rfl, rfl, rfl, rfl, rfl, trivial⟩ ?_
    refine QW.then_ ?_
    refine CW.seq ?_
    refine CW.region ?_
    refine RG.vl rfl rfl rfl (Ev.ldAgg rfl rfl Tryd.underlying24 rfl sz_24 rfl ((hb3.ext hxwm11).cells)) ?_
    refine RG.vl rfl rfl rfl (Ev.move rfl rfl) ?_
    refine RG.vl rfl rfl rfl ((Ev.cat rfl rfl rfl (by decide)).conv (congrArg Value.string (bx_cat [48, 49, 50, 51, 52, 53, 54, 55, 56, 57, 48, 49, 50, 51, 52, 53, 54, 55, 56, 57, 48, 49, 50, 51, 52, 53, 54, 55, 56, 57, 48] [120]))) ?_
    refine RG.call rfl rfl rfl rfl rfl rfl rfl en_21 (Test_is (k := k) (ws := ws) (hws.ext hxwm11) hwl (by decide) (tst_long hr (by decide))) ?_
    rintro _ w526 ⟨rfl, hx526⟩
    replace hxwm11 := Ex.tr hxwm11 hx526
    replace hE502 := Ex.tr hE502 hx526
    replace hE504 := Ex.tr hE504 hx526
    replace hE506 := Ex.tr hE506 hx526
    replace hE508 := Ex.tr hE508 hx526
    replace hE512 := Ex.tr hE512 hx526
    replace hE514 := Ex.tr hE514 hx526
    replace hE516 := Ex.tr hE516 hx526
    replace hE518 := Ex.tr hE518 hx526
    replace hE522 := Ex.tr hE522 hx526
    replace hE525 := Ex.tr hE525 hx526
    have hE527 := hx526
    refine RG.vl rfl rfl rfl (Ev.move rfl rfl) ?_
    refine RG.vl rfl rfl rfl (Ev.extract rfl rfl rfl) ?_
    refine RG.vl rfl rfl rfl (Ev.extract rfl rfl rfl) ?_
    refine RG.vl rfl rfl rfl (Ev.assign rfl rfl) ?_
    refine RG.done ?_
    refine QW.then_ ?_
    refine CW.seq ?_
    refine CW.region ?_
    refine RG.vl rfl rfl rfl (Ev.ldAgg rfl rfl Tryd.underlying24 rfl sz_24 rfl ((hb3.ext hxwm11).cells)) ?_
    refine RG.vl rfl rfl rfl (Ev.move rfl rfl) ?_
    refine RG.vl rfl rfl rfl ((Ev.cat rfl rfl rfl (by decide)).conv (congrArg Value.string (bx_cat [48, 49, 50, 51, 52, 53, 54, 55, 56, 57, 48, 49, 50, 51, 52, 53, 54, 55, 56, 57, 48, 49, 50, 51, 52, 53, 54, 55, 56, 57, 48] [63]))) ?_
    refine RG.call rfl rfl rfl rfl rfl rfl rfl en_31 (Fill_is (k := k) (ws := ws) (hws.ext hxwm11) hwl (by decide) (fil_long hr (by decide))) ?_
    rintro _ w528 ⟨rfl, hx528⟩
    replace hxwm11 := Ex.tr hxwm11 hx528
    replace hE502 := Ex.tr hE502 hx528
    replace hE504 := Ex.tr hE504 hx528
    replace hE506 := Ex.tr hE506 hx528
    replace hE508 := Ex.tr hE508 hx528
    replace hE512 := Ex.tr hE512 hx528
    replace hE514 := Ex.tr hE514 hx528
    replace hE516 := Ex.tr hE516 hx528
    replace hE518 := Ex.tr hE518 hx528
    replace hE522 := Ex.tr hE522 hx528
    replace hE525 := Ex.tr hE525 hx528
    replace hE527 := Ex.tr hE527 hx528
    have hE529 := hx528
    refine RG.vl rfl rfl rfl (Ev.move rfl rfl) ?_
    refine RG.vl rfl rfl rfl (Ev.extract rfl rfl rfl) ?_
    refine RG.vl rfl rfl rfl (Ev.extract rfl rfl rfl) ?_
    refine RG.vl rfl rfl rfl (Ev.assign rfl rfl) ?_
    refine RG.done ?_
    refine QW.sub (S' := [(3, _), (8, _), (9, _), (10, _), (14, _), (16, _), (18, _), (20, _), (22, _)]) ⟨rfl, rfl, rfl, rfl, rfl, rfl, rfl, rfl, rfl, trivial⟩ ?_
    refine QW.then_ ?_
    refine CW.seq ?_
    refine CW.region ?_
    refine RG.vl rfl rfl rfl (Ev.ldAgg rfl rfl Tryd.underlying24 rfl sz_24 rfl ((hb3.ext hxwm11).cells)) ?_
    refine RG.call rfl rfl rfl rfl rfl rfl rfl en_15 (Misses_is (k := k) (ws := ws) (hws.ext hxwm11) hwl (mis_arg hr (by decide))) ?_
    have hpre530 := (Ex.tr hR9 hxwm11)
    rintro _ w530 ⟨r530, rfl, hm530, hx530⟩
    have hsb531 := fun e => sep_blk (hb3.ext hxwm11) (Nat.le_refl _) hm530 e
    have hsb532 := fun e => sep_blk (hbg.ext hE502) (Nat.le_refl _) hm530 e
    have hsep533 : Sep r530 _ := Sep.of_new (Own.ext hm509 hE514) (fun k h => Own.ge hm530 h)
    replace hxwm11 := Ex.tr hxwm11 hx530
    replace hE502 := Ex.tr hE502 hx530
    replace hE504 := Ex.tr hE504 hx530
    replace hE506 := Ex.tr hE506 hx530
    replace hE508 := Ex.tr hE508 hx530
    replace hE512 := Ex.tr hE512 hx530
    replace hE514 := Ex.tr hE514 hx530
    replace hE516 := Ex.tr hE516 hx530
    replace hE518 := Ex.tr hE518 hx530
    replace hE522 := Ex.tr hE522 hx530
    replace hE525 := Ex.tr hE525 hx530
    replace hE527 := Ex.tr hE527 hx530
    replace hE529 := Ex.tr hE529 hx530
    have hE534 := hx530
    refine RG.vl rfl rfl rfl (Ev.move rfl rfl) ?_
    refine RG.vl rfl rfl rfl (Ev.extract rfl rfl rfl) ?_
    refine RG.vl rfl rfl rfl (Ev.extract rfl rfl rfl) ?_
    refine RG.vl rfl rfl rfl (Ev.assign rfl rfl) ?_
    refine RG.done ?_
    refine QW.then_ ?_
    refine CW.seq ?_
    refine CW.region ?_
    refine RG.vl rfl rfl rfl (Ev.ldAgg rfl rfl Tryd.underlying24 rfl sz_24 rfl ((hb3.ext hxwm11).cells)) ?_
    refine RG.call rfl rfl rfl rfl rfl rfl rfl en_15 (Misses_is (k := k) (ws := ws) (hws.ext hxwm11) hwl (mis_arg hr (by decide))) ?_
    have hpre535 := (Ex.tr hR9 hxwm11)
    rintro _ w535 ⟨r535, rfl, hm535, hx535⟩
    have hsb536 := fun e => sep_blk (hb3.ext hxwm11) (Nat.le_refl _) hm535 e
    have hsb537 := fun e => sep_blk (hbg.ext hE502) (Nat.le_refl _) hm535 e
    have hsep538 : Sep r535 _ := Sep.of_new (Own.ext hm509 hE514) (fun k h => Own.ge hm535 h)
    have hsep539 : Sep r535 _ := Sep.of_new hm530 (fun k h => Own.ge hm535 h)
    replace hxwm11 := Ex.tr hxwm11 hx535
    replace hE502 := Ex.tr hE502 hx535
    replace hE504 := Ex.tr hE504 hx535
    replace hE506 := Ex.tr hE506 hx535
    replace hE508 := Ex.tr hE508 hx535
    replace hE512 := Ex.tr hE512 hx535
    replace hE514 := Ex.tr hE514 hx535
    replace hE516 := Ex.tr hE516 hx535
    replace hE518 := Ex.tr hE518 hx535
    replace hE522 := Ex.tr hE522 hx535
    replace hE525 := Ex.tr hE525 hx535
    replace hE527 := Ex.tr hE527 hx535
    replace hE529 := Ex.tr hE529 hx535
    replace hE534 := Ex.tr hE534 hx535
    have hE540 := hx535
    refine RG.vl rfl rfl rfl (Ev.move rfl rfl) ?_
    refine RG.vl rfl rfl rfl (Ev.extract rfl rfl rfl) ?_
    refine RG.vl rfl rfl rfl (Ev.extract rfl rfl rfl) ?_
    refine RG.vl rfl rfl rfl (Ev.assign rfl rfl) ?_
    refine RG.vl rfl rfl rfl (Ev.assign rfl rfl) ?_
    refine RG.done ?_
    refine QW.then_ ?_
    refine CW.seq ?_
    refine CW.seq ?_
    refine CW.region ?_
    refine RG.vl rfl rfl rfl (Ev.move rfl rfl) ?_
    refine RG.vl rfl rfl rfl (Ev.isF (Ev.neI rfl rfl rfl) (fun h => h rfl)) ?_
    refine RG.vl rfl rfl rfl (Ev.move rfl rfl) ?_
    refine RG.vl rfl rfl rfl (Ev.move rfl rfl) ?_
    refine RG.vl rfl rfl rfl (Ev.isF (Ev.neI rfl rfl rfl) (fun h => h rfl)) ?_
    refine RG.vl rfl rfl rfl (Ev.pickF rfl rfl rfl) ?_
    refine RG.vl rfl rfl rfl (Ev.move rfl rfl) ?_
    refine RG.vl rfl rfl rfl (Ev.move rfl rfl) ?_
    refine RG.vl rfl rfl rfl (Ev.isF (Ev.neI rfl rfl rfl) (fun h => h rfl)) ?_
    refine RG.vl rfl rfl rfl (Ev.pickF rfl rfl rfl) ?_
    refine RG.vl rfl rfl rfl (Ev.move rfl rfl) ?_
    refine RG.vl rfl rfl rfl (Ev.move rfl rfl) ?_
    refine RG.vl rfl rfl rfl (Ev.isF (Ev.neI rfl rfl rfl) (fun h => h rfl)) ?_
    refine RG.vl rfl rfl rfl (Ev.pickF rfl rfl rfl) ?_
    refine RG.vl rfl rfl rfl (Ev.move rfl rfl) ?_
    refine RG.vl rfl rfl rfl (Ev.move rfl rfl) ?_
    refine RG.vl rfl rfl rfl (Ev.isF (Ev.neI rfl rfl rfl) (fun h => h rfl)) ?_
    refine RG.vl rfl rfl rfl (Ev.pickF rfl rfl rfl) ?_
    refine RG.vl rfl rfl rfl (Ev.move rfl rfl) ?_
    refine RG.vl rfl rfl rfl (Ev.move rfl rfl) ?_
    refine RG.vl rfl rfl rfl (Ev.isF (Ev.neI rfl rfl rfl) (fun h => h rfl)) ?_
    refine RG.vl rfl rfl rfl (Ev.pickF rfl rfl rfl) ?_
    refine RG.done ?_
    refine QW.sub (S' := [(3, _), (8, _), (9, _), (10, _), (14, _), (16, _), (18, _), (20, _), (22, _), (153, _)]) ⟨rfl, rfl, rfl, rfl, rfl, rfl, rfl, rfl, rfl, rfl, trivial⟩ ?_
    refine QW.then_ ?_
    refine CW.condF rfl ?_
    refine CW.skip ?_
    refine QW.then_ ?_
    refine CW.seq ?_
    refine CW.region ?_
    refine RG.vl rfl rfl rfl (Ev.ldAgg rfl rfl Tryd.underlying24 rfl sz_24 rfl ((hb3.ext hxwm11).cells)) ?_
    refine RG.call rfl rfl rfl rfl rfl rfl rfl en_20 (Check_is (k := k) (ws := ws) (hws.ext hxwm11) hwl (by decide) (check_no_pay (D := []) hr (by decide) (by decide))) ?_
    rintro _ w541 ⟨rfl, hx541⟩
    replace hxwm11 := Ex.tr hxwm11 hx541
    replace hE502 := Ex.tr hE502 hx541
    replace hE504 := Ex.tr hE504 hx541
    replace hE506 := Ex.tr hE506 hx541
    replace hE508 := Ex.tr hE508 hx541
    replace hE512 := Ex.tr hE512 hx541
    replace hE514 := Ex.tr hE514 hx541
    replace hE516 := Ex.tr hE516 hx541
    replace hE518 := Ex.tr hE518 hx541
    replace hE522 := Ex.tr hE522 hx541
    replace hE525 := Ex.tr hE525 hx541
    replace hE527 := Ex.tr hE527 hx541
    replace hE529 := Ex.tr hE529 hx541
    replace hE534 := Ex.tr hE534 hx541
    replace hE540 := Ex.tr hE540 hx541
    have hE542 := hx541
    refine RG.vl rfl rfl rfl (Ev.move rfl rfl) ?_
    refine RG.vl rfl rfl rfl (Ev.extract rfl rfl rfl) ?_
    refine RG.vl rfl rfl rfl (Ev.extract rfl rfl rfl) ?_
    refine RG.vl rfl rfl rfl (Ev.assign rfl rfl) ?_
    refine RG.done ?_
    refine QW.then_ ?_
    refine CW.seq ?_
    refine CW.region ?_
    refine RG.vl rfl rfl rfl (Ev.ldAgg rfl rfl Tryd.underlying24 rfl sz_24 rfl ((hb3.ext hxwm11).cells)) ?_
    refine RG.call rfl rfl rfl rfl rfl rfl rfl en_21 (Test_is (k := k) (ws := ws) (hws.ext hxwm11) hwl (by decide) (test_no_chk (D := [53]) hr ((isChk_snoc k [] 53).trans rfl) (by decide))) ?_
    rintro _ w543 ⟨rfl, hx543⟩
    replace hxwm11 := Ex.tr hxwm11 hx543
    replace hE502 := Ex.tr hE502 hx543
    replace hE504 := Ex.tr hE504 hx543
    replace hE506 := Ex.tr hE506 hx543
    replace hE508 := Ex.tr hE508 hx543
    replace hE512 := Ex.tr hE512 hx543
    replace hE514 := Ex.tr hE514 hx543
    replace hE516 := Ex.tr hE516 hx543
    replace hE518 := Ex.tr hE518 hx543
    replace hE522 := Ex.tr hE522 hx543
    replace hE525 := Ex.tr hE525 hx543
    replace hE527 := Ex.tr hE527 hx543
    replace hE529 := Ex.tr hE529 hx543
    replace hE534 := Ex.tr hE534 hx543
    replace hE540 := Ex.tr hE540 hx543
    replace hE542 := Ex.tr hE542 hx543
    have hE544 := hx543
    refine RG.vl rfl rfl rfl (Ev.move rfl rfl) ?_
    refine RG.vl rfl rfl rfl (Ev.extract rfl rfl rfl) ?_
    refine RG.vl rfl rfl rfl (Ev.extract rfl rfl rfl) ?_
    refine RG.vl rfl rfl rfl (Ev.assign rfl rfl) ?_
    refine RG.done ?_
    refine QW.then_ ?_
    refine CW.seq ?_
    refine CW.region ?_
    refine RG.vl rfl rfl rfl (Ev.ldAgg rfl rfl Tryd.underlying24 rfl sz_24 rfl ((hb3.ext hxwm11).cells)) ?_
    refine RG.vl rfl rfl rfl (Ev.move rfl rfl) ?_
    refine RG.call rfl rfl rfl rfl rfl rfl rfl en_31 (Fill_is (k := k) (ws := ws) (hws.ext hxwm11) hwl (by omega) (fil_no (t := D) hr (by omega) (.inl (count_pay hDp)))) ?_
    rintro _ w545 ⟨rfl, hx545⟩
    replace hxwm11 := Ex.tr hxwm11 hx545
    replace hE502 := Ex.tr hE502 hx545
    replace hE504 := Ex.tr hE504 hx545
    replace hE506 := Ex.tr hE506 hx545
    replace hE508 := Ex.tr hE508 hx545
    replace hE512 := Ex.tr hE512 hx545
    replace hE514 := Ex.tr hE514 hx545
    replace hE516 := Ex.tr hE516 hx545
    replace hE518 := Ex.tr hE518 hx545
    replace hE522 := Ex.tr hE522 hx545
    replace hE525 := Ex.tr hE525 hx545
    replace hE527 := Ex.tr hE527 hx545
    replace hE529 := Ex.tr hE529 hx545
    replace hE534 := Ex.tr hE534 hx545
    replace hE540 := Ex.tr hE540 hx545
    replace hE542 := Ex.tr hE542 hx545
    replace hE544 := Ex.tr hE544 hx545
    have hE546 := hx545
    refine RG.vl rfl rfl rfl (Ev.move rfl rfl) ?_
    refine RG.vl rfl rfl rfl (Ev.extract rfl rfl rfl) ?_
    refine RG.vl rfl rfl rfl (Ev.extract rfl rfl rfl) ?_
    refine RG.vl rfl rfl rfl (Ev.assign rfl rfl) ?_
    refine RG.done ?_
    refine QW.sub (S' := [(3, _), (8, _), (9, _), (10, _), (14, _), (16, _), (18, _), (20, _), (22, _)]) ⟨rfl, rfl, rfl, rfl, rfl, rfl, rfl, rfl, rfl, trivial⟩ ?_
    refine QW.then_ ?_
    refine CW.seq ?_
    refine CW.region ?_
    refine RG.vl rfl rfl rfl (Ev.ldAgg rfl rfl Tryd.underlying24 rfl sz_24 rfl ((hb3.ext hxwm11).cells)) ?_
    refine RG.call rfl rfl rfl rfl rfl rfl rfl en_31 (Fill_is (k := k) (ws := ws) (hws.ext hxwm11) hwl (by decide) (fil_no (t := [63, 63]) hr (by decide) (.inl (by decide)))) ?_
    rintro _ w547 ⟨rfl, hx547⟩
    replace hxwm11 := Ex.tr hxwm11 hx547
    replace hE502 := Ex.tr hE502 hx547
    replace hE504 := Ex.tr hE504 hx547
    replace hE506 := Ex.tr hE506 hx547
    replace hE508 := Ex.tr hE508 hx547
    replace hE512 := Ex.tr hE512 hx547
    replace hE514 := Ex.tr hE514 hx547
    replace hE516 := Ex.tr hE516 hx547
    replace hE518 := Ex.tr hE518 hx547
    replace hE522 := Ex.tr hE522 hx547
    replace hE525 := Ex.tr hE525 hx547
    replace hE527 := Ex.tr hE527 hx547
    replace hE529 := Ex.tr hE529 hx547
    replace hE534 := Ex.tr hE534 hx547
    replace hE540 := Ex.tr hE540 hx547
    replace hE542 := Ex.tr hE542 hx547
    replace hE544 := Ex.tr hE544 hx547
    replace hE546 := Ex.tr hE546 hx547
    have hE548 := hx547
    refine RG.vl rfl rfl rfl (Ev.move rfl rfl) ?_
    refine RG.vl rfl rfl rfl (Ev.extract rfl rfl rfl) ?_
    refine RG.vl rfl rfl rfl (Ev.extract rfl rfl rfl) ?_
    refine RG.vl rfl rfl rfl (Ev.assign rfl rfl) ?_
    refine RG.done ?_
    refine QW.then_ ?_
    refine CW.seq ?_
    refine CW.region ?_
    refine RG.vl rfl rfl rfl (Ev.ldAgg rfl rfl Tryd.underlying24 rfl sz_24 rfl ((hb3.ext hxwm11).cells)) ?_
    refine RG.call rfl rfl rfl rfl rfl rfl rfl en_31 (Fill_is (k := k) (ws := ws) (hws.ext hxwm11) hwl (by decide) (fil_no (t := [63]) hr (by decide) (.inr (by rw [show zeroQ [63] = [] ++ [48] from rfl, isChk_snoc]; rfl)))) ?_
    rintro _ w549 ⟨rfl, hx549⟩
    replace hxwm11 := Ex.tr hxwm11 hx549
    replace hE502 := Ex.tr hE502 hx549
    replace hE504 := Ex.tr hE504 hx549
    replace hE506 := Ex.tr hE506 hx549
    replace hE508 := Ex.tr hE508 hx549
    replace hE512 := Ex.tr hE512 hx549
    replace hE514 := Ex.tr hE514 hx549
    replace hE516 := Ex.tr hE516 hx549
    replace hE518 := Ex.tr hE518 hx549
    replace hE522 := Ex.tr hE522 hx549
    replace hE525 := Ex.tr hE525 hx549
    replace hE527 := Ex.tr hE527 hx549
    replace hE529 := Ex.tr hE529 hx549
    replace hE534 := Ex.tr hE534 hx549
    replace hE540 := Ex.tr hE540 hx549
    replace hE542 := Ex.tr hE542 hx549
    replace hE544 := Ex.tr hE544 hx549
    replace hE546 := Ex.tr hE546 hx549
    replace hE548 := Ex.tr hE548 hx549
    have hE550 := hx549
    refine RG.vl rfl rfl rfl (Ev.move rfl rfl) ?_
    refine RG.vl rfl rfl rfl (Ev.extract rfl rfl rfl) ?_
    refine RG.vl rfl rfl rfl (Ev.extract rfl rfl rfl) ?_
    refine RG.vl rfl rfl rfl (Ev.assign rfl rfl) ?_
    refine RG.done ?_
    refine QW.then_ ?_
    refine CW.seq ?_
    refine CW.seq ?_
    refine CW.region ?_
    refine RG.vl rfl rfl rfl (Ev.move rfl rfl) ?_
    refine RG.vl rfl rfl rfl (Ev.isF (Ev.neI rfl rfl rfl) (fun h => h rfl)) ?_
    refine RG.vl rfl rfl rfl (Ev.move rfl rfl) ?_
    refine RG.vl rfl rfl rfl (Ev.move rfl rfl) ?_
    refine RG.vl rfl rfl rfl (Ev.isF (Ev.neI rfl rfl rfl) (fun h => h rfl)) ?_
    refine RG.vl rfl rfl rfl (Ev.pickF rfl rfl rfl) ?_
    refine RG.vl rfl rfl rfl (Ev.move rfl rfl) ?_
    refine RG.vl rfl rfl rfl (Ev.move rfl rfl) ?_
    refine RG.vl rfl rfl rfl (Ev.isF (Ev.neI rfl rfl rfl) (fun h => h rfl)) ?_
    refine RG.vl rfl rfl rfl (Ev.pickF rfl rfl rfl) ?_
    refine RG.vl rfl rfl rfl (Ev.move rfl rfl) ?_
    refine RG.vl rfl rfl rfl (Ev.move rfl rfl) ?_
    refine RG.vl rfl rfl rfl (Ev.isF (Ev.neI rfl rfl rfl) (fun h => h rfl)) ?_
    refine RG.vl rfl rfl rfl (Ev.pickF rfl rfl rfl) ?_
    refine RG.vl rfl rfl rfl (Ev.move rfl rfl) ?_
    refine RG.vl rfl rfl rfl (Ev.move rfl rfl) ?_
    refine RG.vl rfl rfl rfl (Ev.isF (Ev.neI rfl rfl rfl) (fun h => h rfl)) ?_
    refine RG.vl rfl rfl rfl (Ev.pickF rfl rfl rfl) ?_
    refine RG.done ?_
    refine QW.sub (S' := [(3, _), (8, _), (9, _), (10, _), (14, _), (16, _), (197, _)]) ⟨rfl, rfl, rfl, rfl, rfl, rfl, rfl, trivial⟩ ?_
    refine QW.then_ ?_
    refine CW.condF rfl ?_
    refine CW.skip ?_
    refine QW.then_ ?_
    refine CW.seq ?_
    have hc8 := c.toNat_lt
    obtain ⟨X, hX⟩ := chk_want (i := D.length - 1) hr hDp hD2 (by omega) c
    obtain ⟨Y, hY⟩ := tst_want (i := 0) hr hDp hD2 (by omega) c
    have hE := wantE_or c
    generalize wantE c = E at *
    refine CW.draw [] (.ex) 12 rfl mixed (fun wd551 hxwd551 => ?_)
    replace hxwm11 := Ex.tr hxwm11 hxwd551
    replace hE502 := Ex.tr hE502 hxwd551
    replace hE504 := Ex.tr hE504 hxwd551
    replace hE506 := Ex.tr hE506 hxwd551
    replace hE508 := Ex.tr hE508 hxwd551
    replace hE512 := Ex.tr hE512 hxwd551
    replace hE514 := Ex.tr hE514 hxwd551
    replace hE516 := Ex.tr hE516 hxwd551
    replace hE518 := Ex.tr hE518 hxwd551
    replace hE522 := Ex.tr hE522 hxwd551
    replace hE525 := Ex.tr hE525 hxwd551
    replace hE527 := Ex.tr hE527 hxwd551
    replace hE529 := Ex.tr hE529 hxwd551
    replace hE534 := Ex.tr hE534 hxwd551
    replace hE540 := Ex.tr hE540 hxwd551
    replace hE542 := Ex.tr hE542 hxwd551
    replace hE544 := Ex.tr hE544 hxwd551
    replace hE546 := Ex.tr hE546 hxwd551
    replace hE548 := Ex.tr hE548 hxwd551
    replace hE550 := Ex.tr hE550 hxwd551
    refine AG.take 0 rfl (by kernel_rfl) (by kernel_rfl) rfl rfl rfl (fun wq hq => Ev.ldAgg rfl rfl Tryd.underlying24 rfl sz_24 rfl (((hb3.ext hxwm11).ext hq).cells)) ?_
    refine AG.takeW 1 rfl (by kernel_rfl) (by kernel_rfl) rfl rfl rfl (fun _ => Ev.move rfl rfl) ?_
    refine AG.takeW 2 rfl (by kernel_rfl) (by kernel_rfl) rfl rfl rfl (fun _ => Ev.move rfl rfl) ?_
    refine AG.takeW 3 rfl (by kernel_rfl) (by kernel_rfl) rfl rfl rfl (fun _ => Ev.lenStr rfl rfl rfl Tryd.underlying9) ?_
    refine AG.takeW 4 rfl (by kernel_rfl) (by kernel_rfl) rfl rfl rfl (fun _ => (Ev.subI rfl rfl rfl (by omega)).conv (congrArg (Value.int .i64) (show (⟨D.toArray⟩ : ByteArray).size - 1 = ((D.length - 1 : Nat) : Int) by omega))) ?_
    refine AG.takeW 5 rfl (by kernel_rfl) (by kernel_rfl) rfl rfl rfl (fun _ => Ev.move rfl rfl) ?_
    refine AG.only 6 rfl (by kernel_rfl) ?_
    refine RG.call rfl rfl rfl rfl rfl rfl rfl en_27 (put_ret D (D.length - 1) c _ (by omega) (by omega)) ?_
    rintro _ w553 ⟨rfl, hx553⟩
    replace hxwm11 := Ex.tr hxwm11 hx553
    replace hE502 := Ex.tr hE502 hx553
    replace hE504 := Ex.tr hE504 hx553
    replace hE506 := Ex.tr hE506 hx553
    replace hE508 := Ex.tr hE508 hx553
    replace hE512 := Ex.tr hE512 hx553
    replace hE514 := Ex.tr hE514 hx553
    replace hE516 := Ex.tr hE516 hx553
    replace hE518 := Ex.tr hE518 hx553
    replace hE522 := Ex.tr hE522 hx553
    replace hE525 := Ex.tr hE525 hx553
    replace hE527 := Ex.tr hE527 hx553
    replace hE529 := Ex.tr hE529 hx553
    replace hE534 := Ex.tr hE534 hx553
    replace hE540 := Ex.tr hE540 hx553
    replace hE542 := Ex.tr hE542 hx553
    replace hE544 := Ex.tr hE544 hx553
    replace hE546 := Ex.tr hE546 hx553
    replace hE548 := Ex.tr hE548 hx553
    replace hE550 := Ex.tr hE550 hx553
    have hE554 := hx553
    refine RG.done ?_
    refine QW.an (fun _ => hE554) ?_
    refine AG.only 7 rfl (by kernel_rfl) ?_
    refine RG.call rfl rfl rfl rfl rfl rfl rfl en_20 (Check_is (k := k) (ws := ws) (hws.ext hxwm11) hwl (by rw [List.length_set]; omega) (hX)) ?_
    rintro _ w556 ⟨rfl, hx556⟩
    replace hxwm11 := Ex.tr hxwm11 hx556
    replace hE502 := Ex.tr hE502 hx556
    replace hE504 := Ex.tr hE504 hx556
    replace hE506 := Ex.tr hE506 hx556
    replace hE508 := Ex.tr hE508 hx556
    replace hE512 := Ex.tr hE512 hx556
    replace hE514 := Ex.tr hE514 hx556
    replace hE516 := Ex.tr hE516 hx556
    replace hE518 := Ex.tr hE518 hx556
    replace hE522 := Ex.tr hE522 hx556
    replace hE525 := Ex.tr hE525 hx556
    replace hE527 := Ex.tr hE527 hx556
    replace hE529 := Ex.tr hE529 hx556
    replace hE534 := Ex.tr hE534 hx556
    replace hE540 := Ex.tr hE540 hx556
    replace hE542 := Ex.tr hE542 hx556
    replace hE544 := Ex.tr hE544 hx556
    replace hE546 := Ex.tr hE546 hx556
    replace hE548 := Ex.tr hE548 hx556
    replace hE550 := Ex.tr hE550 hx556
    replace hE554 := Ex.tr hE554 hx556
    have hE557 := hx556
    refine RG.done ?_
    refine QW.an (fun _ => hE557) ?_
    refine AG.takeW 8 rfl (by kernel_rfl) (by kernel_rfl) rfl rfl rfl (fun _ => Ev.move rfl rfl) ?_
    refine AG.takeW 9 rfl (by kernel_rfl) (by kernel_rfl) rfl rfl rfl (fun _ => Ev.extract rfl rfl rfl) ?_
    refine AG.takeW 10 rfl (by kernel_rfl) (by kernel_rfl) rfl rfl rfl (fun _ => Ev.extract rfl rfl rfl) ?_
    refine AG.takeW 11 rfl (by kernel_rfl) (by kernel_rfl) rfl rfl rfl (fun _ => Ev.assign rfl rfl) ?_
    refine AG.done (by kernel_rfl) ?_
    refine QW.then_ ?_
    refine CW.seq ?_
    refine CW.draw [] (.ex) 10 rfl mixed (fun wd558 hxwd558 => ?_)
    replace hxwm11 := Ex.tr hxwm11 hxwd558
    replace hE502 := Ex.tr hE502 hxwd558
    replace hE504 := Ex.tr hE504 hxwd558
    replace hE506 := Ex.tr hE506 hxwd558
    replace hE508 := Ex.tr hE508 hxwd558
    replace hE512 := Ex.tr hE512 hxwd558
    replace hE514 := Ex.tr hE514 hxwd558
    replace hE516 := Ex.tr hE516 hxwd558
    replace hE518 := Ex.tr hE518 hxwd558
    replace hE522 := Ex.tr hE522 hxwd558
    replace hE525 := Ex.tr hE525 hxwd558
    replace hE527 := Ex.tr hE527 hxwd558
    replace hE529 := Ex.tr hE529 hxwd558
    replace hE534 := Ex.tr hE534 hxwd558
    replace hE540 := Ex.tr hE540 hxwd558
    replace hE542 := Ex.tr hE542 hxwd558
    replace hE544 := Ex.tr hE544 hxwd558
    replace hE546 := Ex.tr hE546 hxwd558
    replace hE548 := Ex.tr hE548 hxwd558
    replace hE550 := Ex.tr hE550 hxwd558
    replace hE554 := Ex.tr hE554 hxwd558
    replace hE557 := Ex.tr hE557 hxwd558
    refine AG.take 0 rfl (by kernel_rfl) (by kernel_rfl) rfl rfl rfl (fun wq hq => Ev.ldAgg rfl rfl Tryd.underlying24 rfl sz_24 rfl (((hb3.ext hxwm11).ext hq).cells)) ?_
    refine AG.takeW 1 rfl (by kernel_rfl) (by kernel_rfl) rfl rfl rfl (fun _ => Ev.move rfl rfl) ?_
    refine AG.takeW 2 rfl (by kernel_rfl) (by kernel_rfl) rfl rfl rfl (fun _ => Ev.move rfl rfl) ?_
    refine AG.only 3 rfl (by kernel_rfl) ?_
    refine RG.call rfl rfl rfl rfl rfl rfl rfl en_27 (put_ret D 0 c _ (by omega) (by omega)) ?_
    rintro _ w560 ⟨rfl, hx560⟩
    replace hxwm11 := Ex.tr hxwm11 hx560
    replace hE502 := Ex.tr hE502 hx560
    replace hE504 := Ex.tr hE504 hx560
    replace hE506 := Ex.tr hE506 hx560
    replace hE508 := Ex.tr hE508 hx560
    replace hE512 := Ex.tr hE512 hx560
    replace hE514 := Ex.tr hE514 hx560
    replace hE516 := Ex.tr hE516 hx560
    replace hE518 := Ex.tr hE518 hx560
    replace hE522 := Ex.tr hE522 hx560
    replace hE525 := Ex.tr hE525 hx560
    replace hE527 := Ex.tr hE527 hx560
    replace hE529 := Ex.tr hE529 hx560
    replace hE534 := Ex.tr hE534 hx560
    replace hE540 := Ex.tr hE540 hx560
    replace hE542 := Ex.tr hE542 hx560
    replace hE544 := Ex.tr hE544 hx560
    replace hE546 := Ex.tr hE546 hx560
    replace hE548 := Ex.tr hE548 hx560
    replace hE550 := Ex.tr hE550 hx560
    replace hE554 := Ex.tr hE554 hx560
    replace hE557 := Ex.tr hE557 hx560
    have hE561 := hx560
    refine RG.done ?_
    refine QW.an (fun _ => hE561) ?_
    refine AG.takeW 4 rfl (by kernel_rfl) (by kernel_rfl) rfl rfl rfl (fun _ => (Ev.cat rfl rfl rfl (by rw [sbytes, List.length_set]; show _ + 1 ≤ _; omega)).conv (congrArg Value.string (bx_cat (D.set 0 c) [48]))) ?_
    refine AG.only 5 rfl (by kernel_rfl) ?_
    refine RG.call rfl rfl rfl rfl rfl rfl rfl en_21 (Test_is (k := k) (ws := ws) (hws.ext hxwm11) hwl (by simp; omega) (hY)) ?_
    rintro _ w563 ⟨rfl, hx563⟩
    replace hxwm11 := Ex.tr hxwm11 hx563
    replace hE502 := Ex.tr hE502 hx563
    replace hE504 := Ex.tr hE504 hx563
    replace hE506 := Ex.tr hE506 hx563
    replace hE508 := Ex.tr hE508 hx563
    replace hE512 := Ex.tr hE512 hx563
    replace hE514 := Ex.tr hE514 hx563
    replace hE516 := Ex.tr hE516 hx563
    replace hE518 := Ex.tr hE518 hx563
    replace hE522 := Ex.tr hE522 hx563
    replace hE525 := Ex.tr hE525 hx563
    replace hE527 := Ex.tr hE527 hx563
    replace hE529 := Ex.tr hE529 hx563
    replace hE534 := Ex.tr hE534 hx563
    replace hE540 := Ex.tr hE540 hx563
    replace hE542 := Ex.tr hE542 hx563
    replace hE544 := Ex.tr hE544 hx563
    replace hE546 := Ex.tr hE546 hx563
    replace hE548 := Ex.tr hE548 hx563
    replace hE550 := Ex.tr hE550 hx563
    replace hE554 := Ex.tr hE554 hx563
    replace hE557 := Ex.tr hE557 hx563
    replace hE561 := Ex.tr hE561 hx563
    have hE564 := hx563
    refine RG.done ?_
    refine QW.an (fun _ => hE564) ?_
    refine AG.takeW 6 rfl (by kernel_rfl) (by kernel_rfl) rfl rfl rfl (fun _ => Ev.move rfl rfl) ?_
    refine AG.takeW 7 rfl (by kernel_rfl) (by kernel_rfl) rfl rfl rfl (fun _ => Ev.extract rfl rfl rfl) ?_
    refine AG.takeW 8 rfl (by kernel_rfl) (by kernel_rfl) rfl rfl rfl (fun _ => Ev.extract rfl rfl rfl) ?_
    refine AG.takeW 9 rfl (by kernel_rfl) (by kernel_rfl) rfl rfl rfl (fun _ => Ev.assign rfl rfl) ?_
    refine AG.done (by kernel_rfl) ?_
    refine QW.sub (S' := [(3, _), (8, _), (14, _), (16, _)]) ⟨rfl, rfl, rfl, rfl, trivial⟩ ?_
    refine QW.then_ ?_
    refine CW.seq ?_
    refine CW.region ?_
    refine RG.vl rfl rfl rfl (Ev.assign rfl rfl) ?_
    refine RG.done ?_
    refine QW.then_ ?_
    refine CW.seq ?_
    refine CW.seq ?_
    refine CW.region ?_
    refine RG.vl rfl rfl rfl (Ev.move rfl rfl) ?_
    refine RG.vl rfl rfl rfl (Ev.geq rfl rfl rfl) ?_
    refine RG.vl rfl rfl rfl (Ev.move rfl rfl) ?_
    refine RG.split (d := 220) rfl (fun hg565 => ?_) (fun hg565 => ?_)
    · refine RG.vl rfl rfl rfl (Ev.move rfl rfl) ?_
      refine RG.vl rfl rfl rfl (Ev.leq rfl rfl rfl) ?_
      refine RG.vl rfl rfl rfl (Ev.pickT rfl rfl rfl) ?_
      refine RG.done ?_
      refine QW.then_ ?_
      refine CW.condP rfl (fun hc566 => ?_) (fun hc566 => ?_)
      · refine CW.region ?_
        refine RG.vl rfl rfl rfl (Ev.assign rfl rfl) ?_
        refine RG.done ?_
        refine QW.then_ ?_
        refine CW.seq ?_
        refine CW.region ?_
        refine RG.vl rfl rfl rfl (Ev.move rfl rfl) ?_
        refine RG.vl rfl rfl rfl (Ev.move rfl rfl) ?_
        refine RG.vl rfl rfl rfl (Ev.isT (Ev.eqI rfl rfl rfl) (by omega)) ?_
        refine RG.vl rfl rfl rfl (Ev.move rfl rfl) ?_
        refine RG.vl rfl rfl rfl (Ev.move rfl rfl) ?_
        refine RG.vl rfl rfl rfl (Ev.move rfl rfl) ?_
        refine RG.vl rfl rfl rfl (Ev.isT (Ev.eqI rfl rfl rfl) (by omega)) ?_
        refine RG.vl rfl rfl rfl (Ev.pickT rfl rfl rfl) ?_
        refine RG.vl rfl rfl rfl (Ev.move rfl rfl) ?_
        refine RG.call rfl rfl rfl rfl rfl rfl rfl en_12 (awake_ret _) ?_
        rintro _ w567 ⟨rfl, hx567⟩
        replace hxwm11 := Ex.tr hxwm11 hx567
        replace hE502 := Ex.tr hE502 hx567
        replace hE504 := Ex.tr hE504 hx567
        replace hE506 := Ex.tr hE506 hx567
        replace hE508 := Ex.tr hE508 hx567
        replace hE512 := Ex.tr hE512 hx567
        replace hE514 := Ex.tr hE514 hx567
        replace hE516 := Ex.tr hE516 hx567
        replace hE518 := Ex.tr hE518 hx567
        replace hE522 := Ex.tr hE522 hx567
        replace hE525 := Ex.tr hE525 hx567
        replace hE527 := Ex.tr hE527 hx567
        replace hE529 := Ex.tr hE529 hx567
        replace hE534 := Ex.tr hE534 hx567
        replace hE540 := Ex.tr hE540 hx567
        replace hE542 := Ex.tr hE542 hx567
        replace hE544 := Ex.tr hE544 hx567
        replace hE546 := Ex.tr hE546 hx567
        replace hE548 := Ex.tr hE548 hx567
        replace hE550 := Ex.tr hE550 hx567
        replace hE554 := Ex.tr hE554 hx567
        replace hE557 := Ex.tr hE557 hx567
        replace hE561 := Ex.tr hE561 hx567
        replace hE564 := Ex.tr hE564 hx567
        have hE568 := hx567
        refine RG.vl rfl rfl rfl (Ev.pickT rfl rfl rfl) ?_
        refine RG.vl rfl rfl rfl (Ev.assign rfl rfl) ?_
        refine RG.done ?_
        refine QW.sub (S' := [(8, _)]) ⟨rfl, trivial⟩ ?_
        refine QW.then_ ?_
        refine CW.ret ?_
        refine QW.ret1 rfl rfl ?_
        have hB := (Ex.tr hR9 hxwm11)
        exact ⟨rfl, hB⟩
      · refine CW.skip ?_
        refine QW.then_ ?_
        refine CW.seq ?_
        refine CW.region ?_
        refine RG.vl rfl rfl rfl (Ev.move rfl rfl) ?_
        refine RG.vl rfl rfl rfl (Ev.move rfl rfl) ?_
        refine RG.vl rfl rfl rfl (Ev.isT (Ev.eqI rfl rfl rfl) (by omega)) ?_
        refine RG.vl rfl rfl rfl (Ev.move rfl rfl) ?_
        refine RG.vl rfl rfl rfl (Ev.move rfl rfl) ?_
        refine RG.vl rfl rfl rfl (Ev.move rfl rfl) ?_
        refine RG.vl rfl rfl rfl (Ev.isT (Ev.eqI rfl rfl rfl) (by omega)) ?_
        refine RG.vl rfl rfl rfl (Ev.pickT rfl rfl rfl) ?_
        refine RG.vl rfl rfl rfl (Ev.move rfl rfl) ?_
        refine RG.call rfl rfl rfl rfl rfl rfl rfl en_12 (awake_ret _) ?_
        rintro _ w569 ⟨rfl, hx569⟩
        replace hxwm11 := Ex.tr hxwm11 hx569
        replace hE502 := Ex.tr hE502 hx569
        replace hE504 := Ex.tr hE504 hx569
        replace hE506 := Ex.tr hE506 hx569
        replace hE508 := Ex.tr hE508 hx569
        replace hE512 := Ex.tr hE512 hx569
        replace hE514 := Ex.tr hE514 hx569
        replace hE516 := Ex.tr hE516 hx569
        replace hE518 := Ex.tr hE518 hx569
        replace hE522 := Ex.tr hE522 hx569
        replace hE525 := Ex.tr hE525 hx569
        replace hE527 := Ex.tr hE527 hx569
        replace hE529 := Ex.tr hE529 hx569
        replace hE534 := Ex.tr hE534 hx569
        replace hE540 := Ex.tr hE540 hx569
        replace hE542 := Ex.tr hE542 hx569
        replace hE544 := Ex.tr hE544 hx569
        replace hE546 := Ex.tr hE546 hx569
        replace hE548 := Ex.tr hE548 hx569
        replace hE550 := Ex.tr hE550 hx569
        replace hE554 := Ex.tr hE554 hx569
        replace hE557 := Ex.tr hE557 hx569
        replace hE561 := Ex.tr hE561 hx569
        replace hE564 := Ex.tr hE564 hx569
        have hE570 := hx569
        refine RG.vl rfl rfl rfl (Ev.pickT rfl rfl rfl) ?_
        refine RG.vl rfl rfl rfl (Ev.assign rfl rfl) ?_
        refine RG.done ?_
        refine QW.sub (S' := [(8, _)]) ⟨rfl, trivial⟩ ?_
        refine QW.then_ ?_
        refine CW.ret ?_
        refine QW.ret1 rfl rfl ?_
        have hB := (Ex.tr hR9 hxwm11)
        exact ⟨rfl, hB⟩
    · refine RG.pass rfl rfl rfl ?_
      refine RG.pass rfl rfl rfl ?_
      refine RG.vl rfl rfl rfl (Ev.pickF rfl rfl rfl) ?_
      refine RG.done ?_
      refine QW.then_ ?_
      refine CW.condF rfl ?_
      refine CW.skip ?_
      refine QW.then_ ?_
      refine CW.seq ?_
      refine CW.region ?_
      refine RG.vl rfl rfl rfl (Ev.move rfl rfl) ?_
      refine RG.vl rfl rfl rfl (Ev.move rfl rfl) ?_
      refine RG.vl rfl rfl rfl (Ev.isT (Ev.eqI rfl rfl rfl) (by omega)) ?_
      refine RG.vl rfl rfl rfl (Ev.move rfl rfl) ?_
      refine RG.vl rfl rfl rfl (Ev.move rfl rfl) ?_
      refine RG.vl rfl rfl rfl (Ev.move rfl rfl) ?_
      refine RG.vl rfl rfl rfl (Ev.isT (Ev.eqI rfl rfl rfl) (by omega)) ?_
      refine RG.vl rfl rfl rfl (Ev.pickT rfl rfl rfl) ?_
      refine RG.vl rfl rfl rfl (Ev.move rfl rfl) ?_
      refine RG.call rfl rfl rfl rfl rfl rfl rfl en_12 (awake_ret _) ?_
      rintro _ w571 ⟨rfl, hx571⟩
      replace hxwm11 := Ex.tr hxwm11 hx571
      replace hE502 := Ex.tr hE502 hx571
      replace hE504 := Ex.tr hE504 hx571
      replace hE506 := Ex.tr hE506 hx571
      replace hE508 := Ex.tr hE508 hx571
      replace hE512 := Ex.tr hE512 hx571
      replace hE514 := Ex.tr hE514 hx571
      replace hE516 := Ex.tr hE516 hx571
      replace hE518 := Ex.tr hE518 hx571
      replace hE522 := Ex.tr hE522 hx571
      replace hE525 := Ex.tr hE525 hx571
      replace hE527 := Ex.tr hE527 hx571
      replace hE529 := Ex.tr hE529 hx571
      replace hE534 := Ex.tr hE534 hx571
      replace hE540 := Ex.tr hE540 hx571
      replace hE542 := Ex.tr hE542 hx571
      replace hE544 := Ex.tr hE544 hx571
      replace hE546 := Ex.tr hE546 hx571
      replace hE548 := Ex.tr hE548 hx571
      replace hE550 := Ex.tr hE550 hx571
      replace hE554 := Ex.tr hE554 hx571
      replace hE557 := Ex.tr hE557 hx571
      replace hE561 := Ex.tr hE561 hx571
      replace hE564 := Ex.tr hE564 hx571
      have hE572 := hx571
      refine RG.vl rfl rfl rfl (Ev.pickT rfl rfl rfl) ?_
      refine RG.vl rfl rfl rfl (Ev.assign rfl rfl) ?_
      refine RG.done ?_
      refine QW.sub (S' := [(8, _)]) ⟨rfl, trivial⟩ ?_
      refine QW.then_ ?_
      refine CW.ret ?_
      refine QW.ret1 rfl rfl ?_
      have hB := (Ex.tr hR9 hxwm11)
      exact ⟨rfl, hB⟩

end Go.Proofs.YtnhkhpnkhkagaaaDoor
